import PyProof.Rows.All
import Wide.All
import OpenK.AllK
import Wide.FinOn
import HandS.ForMost
import HandS.ExcInit
import HandS.ForExc
import HandS.TupAny
import HandS.Wide
import HandS.Deep
import HandS.CallSlots
import HandS.Property
import HandS.NoneIn
import HandS.Comp
import HandS.TupLen
import HandS.IsInst
import HandS.Steps
import HandS.TryMany
import HandS.ExcField
import HandS.More
import HandS.Text
import KE.KIsAll
import HandS.SlotsOwn
import PyProof.InstNe
import HandS.DictComp
import HandS.SortOrd
import HandS.Conv
import KE.KDictSum
import KE.KStateDown
import HandS.Head0
import HandS.Head1
import HandS.Head2
import HandS.HeadEnd
import HandS.HeadHook1
import HandS.HeadHook2
import HandS.ExcIs
import PyProof.Rows.NestShow
import HandS.HotCalls
import HandS.TupMul
import PyProof.P3In
import HandS.Style
import PyProof.ZipIter
import HandS.Zip0
import PyProof.ListNew
import PyProof.CollectWalk
import HandS.ListItems
import HandS.Zip
import HandS.Rev
import HandS.Dict
import KE.KDictWalk
import HandS.MakeKwOnly
import KE.KDictItemsList
import KE.KEqDict
import KE.KDictPairs
import KE.KCallOwn
import KE.KOpsOwn
import KE.KxMul
import KE.KTryMore
import HandS.SortInts
import PyProof.EnumMake
import PyProof.Draws
import HandS.FStr
import KE.KExcStr
import HandS.TupLe
import PyProof.StrOps2
import KE.KExcIs
import HandS.ExcBuiltin
import HandS.ExcValue
import PySem.Challenge.RW_runledger_k73_errors_and_fields
set_option Elab.async false
set_option linter.all false
set_option maxRecDepth 100000
namespace VM
open PySem L2
inductive D where
  | non | bl (b : Bool) | int (i : Int) | str (s : Str)
  | lst (xs : List D) | tup (xs : List D) | dK (es : List (Key × D)) | dT (es : List (List Key × D)) | ins (x : Str) (gs : List (Str × D)) | scr (ns : List Int) | ktup (xs : List D) | exc (x : Str) (gs : List (Str × D))
def kD : Key → D
  | .inl i => .int i
  | .inr s => .str s
def ErD (F : Hp) (od : Option Addr) (fs : List (Str × V)) : Prop := (od = none ∧ fs = []) ∨ ∃ dx, od = some dx ∧ F dx = some (exd dx fs)
mutual
inductive DD (K : PySem.W.Frag) (mg : Str → Option Value) (F : Hp) : D → V → Prop
  | non : DD K mg F .non .non
  | bl (b : Bool) : DD K mg F (.bl b) (.bl b)
  | int (i : Int) : DD K mg F (.int i) (.int i)
  | str (s : Str) : DD K mg F (.str s) (.str s)
  | scr {a : Addr} {ns : List Int} : SqL K F a (ns.map V.int) → DD K mg F (.scr ns) (.ref a)
  | lst {a : Addr} {ds : List D} {xs : List V} : F a = some (.lst xs) → DDs K mg F ds xs → DD K mg F (.lst ds) (.ref a)
  | tup {a : Addr} {ds : List D} {xs : List V} : F a = some (.tup xs) → DDs K mg F ds xs → DD K mg F (.tup ds) (.ref a)
  | ktup {a : Addr} {ds : List D} {xs : List V} : SqT K F a xs → DDs K mg F ds xs → DD K mg F (.ktup ds) (.ref a)
  | dk {a : Addr} {es : List (Key × D)} {kvs : List (Key × V)} : Rd F a (.dK kvs) → DDk K mg F es kvs → DD K mg F (.dK es) (.ref a)
  | dt {a : Addr} {es : List (List Key × D)} {kvs : List (List Key × V)} : Rd F a (.dT kvs) → DDt K mg F es kvs → DD K mg F (.dT es) (.ref a)
  | ins {a C dx : Addr} {x : Str} {gs : List (Str × D)} {fs : List (Str × V)} : mg x = some (.ref C) → F a = some (.ins C dx fs) → DDf K mg F gs fs → DD K mg F (.ins x gs) (.ref a)
  | exc {a C : Addr} {od : Option Addr} {x : Str} {gs : List (Str × D)} {fs : List (Str × V)} : mg x = some (.ref C) → F a = some (exo a C od) → ErD F od fs → DDf K mg F gs fs → DD K mg F (.exc x gs) (.ref a)
inductive DDs (K : PySem.W.Frag) (mg : Str → Option Value) (F : Hp) : List D → List V → Prop
  | nil : DDs K mg F [] []
  | cons {d : D} {v : V} {ds : List D} {vs : List V} : DD K mg F d v → DDs K mg F ds vs → DDs K mg F (d :: ds) (v :: vs)
inductive DDk (K : PySem.W.Frag) (mg : Str → Option Value) (F : Hp) : List (Key × D) → List (Key × V) → Prop
  | nil : DDk K mg F [] []
  | cons {k : Key} {d : D} {v : V} {ds : List (Key × D)} {vs : List (Key × V)} : DD K mg F d v → DDk K mg F ds vs → DDk K mg F ((k, d) :: ds) ((k, v) :: vs)
inductive DDt (K : PySem.W.Frag) (mg : Str → Option Value) (F : Hp) : List (List Key × D) → List (List Key × V) → Prop
  | nil : DDt K mg F [] []
  | cons {k : List Key} {d : D} {v : V} {ds : List (List Key × D)} {vs : List (List Key × V)} : DD K mg F d v → DDt K mg F ds vs → DDt K mg F ((k, d) :: ds) ((k, v) :: vs)
inductive DDf (K : PySem.W.Frag) (mg : Str → Option Value) (F : Hp) : List (Str × D) → List (Str × V) → Prop
  | nil : DDf K mg F [] []
  | cons {f : Str} {d : D} {v : V} {ds : List (Str × D)} {vs : List (Str × V)} : DD K mg F d v → DDf K mg F ds vs → DDf K mg F ((f, d) :: ds) ((f, v) :: vs)
end
section
variable {K : PySem.W.Frag} {mg : Str → Option Value} {F F' : Hp}
def Ex (H H' : Hp) : Prop := ∀ a o, H a = some o → H' a = some o
theorem ex_r (e : Ex F F') {a : Addr} {u : HO} (h : Rd F a u) : Rd F' a u := h.imp (e _ _) fun ⟨o, h⟩ => ⟨o, e _ _ h⟩
theorem ex_t (e : Ex F F') {a : Addr} {xs : List V} (h : SqT K F a xs) : SqT K F' a xs := by
  rcases h with (h | ⟨o, h⟩) | h
  · exact .inl (.inl (e _ _ h))
  · exact .inl (.inr ⟨o, e _ _ h⟩)
  · exact .inr h
theorem ex_l (e : Ex F F') {a : Addr} {xs : List V} (h : SqL K F a xs) : SqL K F' a xs := by
  rcases h with (h | ⟨o, h⟩) | h
  · exact .inl (.inl (e _ _ h))
  · exact .inl (.inr ⟨o, e _ _ h⟩)
  · exact .inr h
mutual
theorem DD.mono (e : Ex F F') : ∀ {d : D} {v : V}, DD K mg F d v → DD K mg F' d v
  | _, _, .non => .non
  | _, _, .bl b => .bl b
  | _, _, .int b => .int b
  | _, _, .str b => .str b
  | _, _, .scr h => .scr (ex_l e h)
  | _, _, .lst h r => .lst (e _ _ h) (DDs.mono e r)
  | _, _, .tup h r => .tup (e _ _ h) (DDs.mono e r)
  | _, _, .ktup h r => .ktup (ex_t e h) (DDs.mono e r)
  | _, _, .dk h r => .dk (ex_r e h) (DDk.mono e r)
  | _, _, .dt h r => .dt (ex_r e h) (DDt.mono e r)
  | _, _, .ins m h r => .ins m (e _ _ h) (DDf.mono e r)
  | _, _, .exc m h q r => .exc m (e _ _ h) (q.imp id fun ⟨dx, z, y⟩ => ⟨dx, z, e _ _ y⟩) (DDf.mono e r)
theorem DDs.mono (e : Ex F F') : ∀ {d : List D} {v : List V}, DDs K mg F d v → DDs K mg F' d v
  | _, _, .nil => .nil
  | _, _, .cons h r => .cons (DD.mono e h) (DDs.mono e r)
theorem DDk.mono (e : Ex F F') : ∀ {d : List (Key × D)} {v : List (Key × V)}, DDk K mg F d v → DDk K mg F' d v
  | _, _, .nil => .nil
  | _, _, .cons h r => .cons (DD.mono e h) (DDk.mono e r)
theorem DDt.mono (e : Ex F F') : ∀ {d : List (List Key × D)} {v : List (List Key × V)}, DDt K mg F d v → DDt K mg F' d v
  | _, _, .nil => .nil
  | _, _, .cons h r => .cons (DD.mono e h) (DDt.mono e r)
theorem DDf.mono (e : Ex F F') : ∀ {d : List (Str × D)} {v : List (Str × V)}, DDf K mg F d v → DDf K mg F' d v
  | _, _, .nil => .nil
  | _, _, .cons h r => .cons (DD.mono e h) (DDf.mono e r)
end
end
inductive T where
  | fz (d : D) | fl (d : D) | lst (ts : List T) | dk (es : List (Key × T)) | dt (es : List (List Key × T)) | ins (x : Str) (gs : List (Str × T)) | tup (ts : List T)
mutual
def T.er : T → D
  | .fz d => d
  | .fl d => d
  | .lst ts => .lst (T.ers ts)
  | .dk ts => .dK (T.erk ts)
  | .dt ts => .dT (T.ert ts)
  | .ins x ts => .ins x (T.erf ts)
  | .tup ts => .tup (T.ers ts)
def T.ers : List T → List D
  | [] => []
  | t :: ts => t.er :: T.ers ts
def T.erk : List (Key × T) → List (Key × D)
  | [] => []
  | (k, t) :: ts => (k, t.er) :: T.erk ts
def T.ert : List (List Key × T) → List (List Key × D)
  | [] => []
  | (k, t) :: ts => (k, t.er) :: T.ert ts
def T.erf : List (Str × T) → List (Str × D)
  | [] => []
  | (k, t) :: ts => (k, t.er) :: T.erf ts
end
inductive Slot where
  | emp | dat (d : D) | pdt (d : D) | own (d : D) | par (d : D) | ali (i : Nat) | tre (t : T) | ptr (t : T)
abbrev LS := List Slot
abbrev Ent := Option V × Slot
structure Base where
  F : Hp
  H : Hp
  W : Addr → Prop
  P : Nat → Option (Option V)
def noP : Nat → Option (Option V) := fun _ => none
structure Cfg where
  K : PySem.W.Frag
  mg : Str → Option Value
  B : Base
section
variable (G : Cfg) (F H : Hp)
def ObD (o : HO) (d : D) : Prop := match o, d with
  | .lst xs, .lst ds => DDs G.K G.mg F ds xs
  | .dK kvs, .dK es => DDk G.K G.mg F es kvs
  | .dT kvs, .dT es => DDt G.K G.mg F es kvs
  | .ins C _ fs, .ins x gs => G.mg x = some (.ref C) ∧ DDf G.K G.mg F gs fs
  | _, _ => False
def OwnAt (p : Addr) (d : D) : Prop := F p = none ∧ (G.B.H p = none ∨ G.B.W p) ∧ ∃ o, H p = some o ∧ ObD G F o d
def Node (p : Addr) (o : HO) : Prop := F p = none ∧ (G.B.H p = none ∨ G.B.W p) ∧ H p = some o
mutual
inductive TOk : T → V → Prop
  | fz {d : D} {v : V} : DD G.K G.mg F d v → TOk (.fz d) v
  | fl {d : D} {p : Addr} : OwnAt G F H p d → TOk (.fl d) (.ref p)
  | lst {p : Addr} {ts : List T} {xs : List V} : Node G F H p (.lst xs) → TOks ts xs → TOk (.lst ts) (.ref p)
  | dk {p : Addr} {ts : List (Key × T)} {xs : List (Key × V)} : Node G F H p (.dK xs) → TOkk ts xs → TOk (.dk ts) (.ref p)
  | dt {p : Addr} {ts : List (List Key × T)} {xs : List (List Key × V)} : Node G F H p (.dT xs) → TOkt ts xs → TOk (.dt ts) (.ref p)
  | ins {p C dx : Addr} {x : Str} {ts : List (Str × T)} {xs : List (Str × V)} : G.mg x = some (.ref C) → Node G F H p (.ins C dx xs) → TOkf ts xs → TOk (.ins x ts) (.ref p)
  | tup {p : Addr} {ts : List T} {xs : List V} : F p = some (.tup xs) → H p = some (.tup xs) → TOks ts xs → TOk (.tup ts) (.ref p)
inductive TOks : List T → List V → Prop
  | nil : TOks [] []
  | cons {t : T} {v : V} {ts : List T} {vs : List V} : TOk t v → TOks ts vs → TOks (t :: ts) (v :: vs)
inductive TOkk : List (Key × T) → List (Key × V) → Prop
  | nil : TOkk [] []
  | cons {k : Key} {t : T} {v : V} {ts : List (Key × T)} {vs : List (Key × V)} : TOk t v → TOkk ts vs → TOkk ((k, t) :: ts) ((k, v) :: vs)
inductive TOkt : List (List Key × T) → List (List Key × V) → Prop
  | nil : TOkt [] []
  | cons {k : List Key} {t : T} {v : V} {ts : List (List Key × T)} {vs : List (List Key × V)} : TOk t v → TOkt ts vs → TOkt ((k, t) :: ts) ((k, v) :: vs)
inductive TOkf : List (Str × T) → List (Str × V) → Prop
  | nil : TOkf [] []
  | cons {k : Str} {t : T} {v : V} {ts : List (Str × T)} {vs : List (Str × V)} : TOk t v → TOkf ts vs → TOkf ((k, t) :: ts) ((k, v) :: vs)
end
end
section
variable (H : Hp)
mutual
def ads : T → V → List Addr
  | .fz _, _ => []
  | .fl _, v => (match v with | .ref p => [p] | _ => [])
  | .lst ts, v => (match v with | .ref p => p :: (match H p with | some (.lst xs) => adsL ts xs | _ => []) | _ => [])
  | .dk ts, v => (match v with | .ref p => p :: (match H p with | some (.dK xs) => adsK ts xs | _ => []) | _ => [])
  | .dt ts, v => (match v with | .ref p => p :: (match H p with | some (.dT xs) => adsT ts xs | _ => []) | _ => [])
  | .ins _ ts, v => (match v with | .ref p => p :: (match H p with | some (.ins _ _ xs) => adsF ts xs | _ => []) | _ => [])
  | .tup ts, v => (match v with | .ref p => (match H p with | some (.tup xs) => adsL ts xs | _ => []) | _ => [])
def adsL : List T → List V → List Addr
  | [], _ => []
  | t :: ts, vs => (match vs with | v :: vs => ads t v ++ adsL ts vs | [] => [])
def adsK : List (Key × T) → List (Key × V) → List Addr
  | [], _ => []
  | (_, t) :: ts, vs => (match vs with | (_, v) :: vs => ads t v ++ adsK ts vs | [] => [])
def adsT : List (List Key × T) → List (List Key × V) → List Addr
  | [], _ => []
  | (_, t) :: ts, vs => (match vs with | (_, v) :: vs => ads t v ++ adsT ts vs | [] => [])
def adsF : List (Str × T) → List (Str × V) → List Addr
  | [], _ => []
  | (_, t) :: ts, vs => (match vs with | (_, v) :: vs => ads t v ++ adsF ts vs | [] => [])
end
end
section
variable (G : Cfg) (F H : Hp)
def EnOk : Ent → Prop
  | (_, .emp) => True
  | (v, .dat d) => ∃ x, v = some x ∧ DD G.K G.mg F d x
  | (v, .pdt d) => ∃ x, v = some x ∧ DD G.K G.mg F d x
  | (v, .own d) => ∃ p, v = some (.ref p) ∧ OwnAt G F H p d
  | (v, .par d) => ∃ p, v = some (.ref p) ∧ OwnAt G F H p d
  | (_, .ali _) => True
  | (v, .tre t) => ∃ x, v = some x ∧ TOk G F H t x ∧ (ads H t x).Nodup
  | (v, .ptr t) => ∃ x, v = some x ∧ TOk G F H t x ∧ (ads H t x).Nodup
end
def refA : Option V → List Addr
  | some (.ref p) => [p]
  | _ => []
def adE (H : Hp) (e : Ent) : List Addr := match e.2 with
  | .own _ => refA e.1
  | .par _ => refA e.1
  | .tre t => (match e.1 with | some v => ads H t v | none => [])
  | .ptr t => (match e.1 with | some v => ads H t v | none => [])
  | _ => []
def ent (vs : List V) (ks : List Slot) (σ : St) (ls : LS) : List Ent := (vs.map some).zip ks ++ σ.zip ls
def Slot.live : Slot → Bool
  | .dat _ => true
  | .pdt _ => true
  | .own _ => true
  | .par _ => true
  | .tre _ => true
  | .ptr _ => true
  | _ => false
structure Good (G : Cfg) (F H : Hp) (E : List Ent) : Prop where
  all : ∀ (n : Nat) (e : Ent), E[n]? = some e → EnOk G F H e
  nd : ∀ (m n : Nat) (e e' : Ent) (p : Addr), E[m]? = some e → E[n]? = some e' → p ∈ adE H e → p ∈ adE H e' → m = n
structure Rp (G : Cfg) (F H : Hp) (σ : St) (ls : LS) (vs : List V) (ks : List Slot) : Prop where
  ex : Ex F H
  ex0 : Ex G.B.F F
  len : σ.length = ls.length
  klen : vs.length = ks.length
  good : Good G F H (ent vs ks σ ls)
  al : ∀ (v : V) (i : Nat), (v, Slot.ali i) ∈ vs.zip ks → ∃ s, σ[i]? = some (some v) ∧ ls[i]? = some s ∧ s.live = true
  pin : ∀ (i : Nat) (d : D), (ls[i]? = some (.par d) ∨ ls[i]? = some (.pdt d) ∨ ls[i]? = some (.ali 0) ∨ ∃ t, ls[i]? = some (.ptr t)) → ∃ v, G.B.P i = some v ∧ σ[i]? = some v
  b1 : ∀ b o, G.B.H b = some o → G.B.W b ∨ H b = some o
  b2 : ∀ b, G.B.H b ≠ none → H b ≠ none
  b3 : ∀ b, F b ≠ none → (∃ xs, F b = some (.tup xs)) ∨ G.B.F b ≠ none ∨ G.B.H b = none ∨ G.B.W b
section
variable {G : Cfg} {F F' H H' : Hp} {σ : St} {ls : LS} {vs : List V} {ks : List Slot} {v : V} {k : Slot} {d d' : D} {p : Addr} {o o' : HO} {i : Nat} {E : List Ent} {e e' : Ent}
theorem ObD.mono (x : Ex F F') (h : ObD G F o d) : ObD G F' o d := by
  cases o <;> cases d <;> first | exact h.elim | exact DDs.mono x h | exact DDk.mono x h | exact DDt.mono x h | exact ⟨h.1, DDf.mono x h.2⟩
theorem ObD.mut (h : ObD G F o d) : Mut (some o) := by
  cases o <;> first | trivial | (cases d <;> exact h.elim)
theorem ObD.dd (h : ObD G F o d) (hp : F p = some o) : DD G.K G.mg F d (.ref p) := by
  cases o <;> cases d <;> first | exact h.elim | exact .lst hp h | exact .dk (.inl hp) h | exact .dt (.inl hp) h | exact .ins h.1 hp h.2
theorem Ex.upd (h : F p = none) : Ex F (upd F p o) := fun a u e => by
  rw [upd_ne (ne_of_none e h)]; exact e
theorem Ex.rfl : Ex F F := fun _ _ h => h
theorem Ex.trans {F1 F2 F3 : Hp} (a : Ex F1 F2) (b : Ex F2 F3) : Ex F1 F3 := fun x o h => b x o (a x o h)
def Own1 (G : Cfg) (F H : Hp) (p : Addr) : Prop := F p = none ∧ (G.B.H p = none ∨ G.B.W p) ∧ ∃ o, H p = some o ∧ Mut (some o)
theorem OwnAt.one (h : OwnAt G F H p d) : Own1 G F H p := ⟨h.1, h.2.1, by obtain ⟨o, a, b⟩ := h.2.2; exact ⟨o, a, b.mut⟩⟩
section
variable {t : T} {ts : List T}
theorem ads_fl (p : Addr) : ads H (.fl d) (.ref p) = [p] := by rw [ads]
theorem ads_fz : ads H (.fz d) v = [] := by rw [ads]
theorem ads_lst {xs : List V} (h : H p = some (.lst xs)) : ads H (.lst ts) (.ref p) = p :: adsL H ts xs := by rw [ads]; simp only [h]
theorem ads_dk {ts : List (Key × T)} {xs : List (Key × V)} (h : H p = some (.dK xs)) : ads H (.dk ts) (.ref p) = p :: adsK H ts xs := by rw [ads]; simp only [h]
theorem ads_dt {ts : List (List Key × T)} {xs : List (List Key × V)} (h : H p = some (.dT xs)) : ads H (.dt ts) (.ref p) = p :: adsT H ts xs := by rw [ads]; simp only [h]
theorem ads_tup {xs : List V} (h : H p = some (.tup xs)) : ads H (.tup ts) (.ref p) = adsL H ts xs := by rw [ads]; simp only [h]
theorem ads_ins {x : Str} {C dx : Addr} {ts : List (Str × T)} {xs : List (Str × V)} (h : H p = some (.ins C dx xs)) : ads H (.ins x ts) (.ref p) = p :: adsF H ts xs := by rw [ads]; simp only [h]
theorem adsL_cons {xs : List V} : adsL H (t :: ts) (v :: xs) = ads H t v ++ adsL H ts xs := by rw [adsL]
theorem adsK_cons {k : Key} {k' : Key} {ts : List (Key × T)} {xs : List (Key × V)} : adsK H ((k, t) :: ts) ((k', v) :: xs) = ads H t v ++ adsK H ts xs := by rw [adsK]
theorem adsT_cons {k : List Key} {k' : List Key} {ts : List (List Key × T)} {xs : List (List Key × V)} : adsT H ((k, t) :: ts) ((k', v) :: xs) = ads H t v ++ adsT H ts xs := by rw [adsT]
theorem adsF_cons {k : Str} {k' : Str} {ts : List (Str × T)} {xs : List (Str × V)} : adsF H ((k, t) :: ts) ((k', v) :: xs) = ads H t v ++ adsF H ts xs := by rw [adsF]
theorem adsL_nil {xs : List V} : adsL H [] xs = [] := by rw [adsL]
theorem adsK_nil {xs : List (Key × V)} : adsK H [] xs = [] := by rw [adsK]
theorem adsT_nil {xs : List (List Key × V)} : adsT H [] xs = [] := by rw [adsT]
theorem adsF_nil {xs : List (Str × V)} : adsF H [] xs = [] := by rw [adsF]
end
theorem Node.one (h : Node G F H p o) (m : Mut (some o)) : Own1 G F H p := ⟨h.1, h.2.1, o, h.2.2, m⟩
mutual
theorem TOk.one : ∀ {t : T} {v : V}, TOk G F H t v → p ∈ ads H t v → Own1 G F H p
  | _, _, .fz _, h => by rw [ads_fz] at h; cases h
  | _, _, .fl o, h => by rw [ads_fl] at h; cases List.mem_singleton.mp h; exact o.one
  | _, _, .lst n q, h => by
    rw [ads_lst n.2.2] at h
    rcases List.mem_cons.mp h with z | z
    · subst z; exact n.one trivial
    · exact TOks.one q z
  | _, _, .dk n q, h => by
    rw [ads_dk n.2.2] at h
    rcases List.mem_cons.mp h with z | z
    · subst z; exact n.one trivial
    · exact TOkk.one q z
  | _, _, .dt n q, h => by
    rw [ads_dt n.2.2] at h
    rcases List.mem_cons.mp h with z | z
    · subst z; exact n.one trivial
    · exact TOkt.one q z
  | _, _, .ins _ n q, h => by
    rw [ads_ins n.2.2] at h
    rcases List.mem_cons.mp h with z | z
    · subst z; exact n.one trivial
    · exact TOkf.one q z
  | _, _, .tup _ n q, h => by
    rw [ads_tup n] at h
    exact TOks.one q h
theorem TOks.one : ∀ {t : List T} {v : List V}, TOks G F H t v → p ∈ adsL H t v → Own1 G F H p
  | _, _, .nil, h => by rw [adsL_nil] at h; cases h
  | _, _, .cons a b, h => by
    rw [adsL_cons] at h
    rcases List.mem_append.mp h with z | z
    · exact TOk.one a z
    · exact TOks.one b z
theorem TOkk.one : ∀ {t : List (Key × T)} {v : List (Key × V)}, TOkk G F H t v → p ∈ adsK H t v → Own1 G F H p
  | _, _, .nil, h => by rw [adsK_nil] at h; cases h
  | _, _, .cons a b, h => by
    rw [adsK_cons] at h
    rcases List.mem_append.mp h with z | z
    · exact TOk.one a z
    · exact TOkk.one b z
theorem TOkt.one : ∀ {t : List (List Key × T)} {v : List (List Key × V)}, TOkt G F H t v → p ∈ adsT H t v → Own1 G F H p
  | _, _, .nil, h => by rw [adsT_nil] at h; cases h
  | _, _, .cons a b, h => by
    rw [adsT_cons] at h
    rcases List.mem_append.mp h with z | z
    · exact TOk.one a z
    · exact TOkt.one b z
theorem TOkf.one : ∀ {t : List (Str × T)} {v : List (Str × V)}, TOkf G F H t v → p ∈ adsF H t v → Own1 G F H p
  | _, _, .nil, h => by rw [adsF_nil] at h; cases h
  | _, _, .cons a b, h => by
    rw [adsF_cons] at h
    rcases List.mem_append.mp h with z | z
    · exact TOk.one a z
    · exact TOkf.one b z
end
def Stay (B' : Base) (H F' H' : Hp) (S : List Addr) : Prop := ∀ q, q ∈ S → F' q = none ∧ H' q = H q ∧ (B'.H q = none ∨ B'.W q)
theorem Stay.left {B' : Base} {S S' : List Addr} (h : Stay B' H F' H' (S ++ S')) : Stay B' H F' H' S := fun q z => h q (List.mem_append_left _ z)
theorem Stay.right {B' : Base} {S S' : List Addr} (h : Stay B' H F' H' (S ++ S')) : Stay B' H F' H' S' := fun q z => h q (List.mem_append_right _ z)
theorem Stay.tail {B' : Base} {S : List Addr} (h : Stay B' H F' H' (p :: S)) : Stay B' H F' H' S := fun q z => h q (List.mem_cons_of_mem _ z)
theorem Node.move {B' : Base} {S : List Addr} (n : Node G F H p o) (h : Stay B' H F' H' (p :: S)) : Node ⟨G.K, G.mg, B'⟩ F' H' p o :=
  ⟨(h p (List.mem_cons_self ..)).1, (h p (List.mem_cons_self ..)).2.2, by rw [(h p (List.mem_cons_self ..)).2.1]; exact n.2.2⟩
theorem ObD.grow {B' : Base} (x : Ex F F') (h : ObD G F o d) : ObD ⟨G.K, G.mg, B'⟩ F' o d := by
  cases o <;> cases d <;> first | exact h.elim | exact DDs.mono x h | exact DDk.mono x h | exact DDt.mono x h | exact ⟨h.1, DDf.mono x h.2⟩
def Tu (H F' H' : Hp) : Prop := ∀ (p : Addr) (xs : List V), H p = some (.tup xs) → F' p = some (.tup xs) → H' p = some (.tup xs)
theorem Ex.tu {F' H' : Hp} (y : Ex F' H') : Tu H F' H' := fun p xs _ h => y _ _ h
theorem Tu.grow {F' H' : Hp} (x : Ex H H') : Tu H F' H' := fun p xs h _ => x _ _ h
theorem Own1.tu {F' : Hp} (h : Own1 G F H p) : Tu H F' (upd H p o) := fun q xs h1 _ => by
  obtain ⟨_, _, u, h2, h3⟩ := h
  rw [upd_ne fun z => by rw [z, h2] at h1; cases h1; exact h3]
  exact h1
theorem Tu.rfl {F' : Hp} : Tu H F' H := fun _ _ h _ => h
section
variable {B' : Base} (x : Ex F F') (y : Tu H F' H')
include x y
mutual
theorem TOk.move : ∀ {t : T} {v : V}, TOk G F H t v → Stay B' H F' H' (ads H t v) → TOk ⟨G.K, G.mg, B'⟩ F' H' t v ∧ ads H' t v = ads H t v
  | _, _, .fz d, h => ⟨.fz (d.mono x), by rw [ads_fz, ads_fz]⟩
  | _, _, .fl o, h => by
    rw [ads_fl] at h
    obtain ⟨a, b, c⟩ := h _ (List.mem_singleton.mpr rfl)
    obtain ⟨_, _, u, e, g⟩ := o
    exact ⟨.fl ⟨a, c, u, by rw [b]; exact e, g.grow x⟩, by rw [ads_fl, ads_fl]⟩
  | _, _, .lst n q, h => by
    rw [ads_lst n.2.2] at h ⊢
    have n' := n.move h
    obtain ⟨a, b⟩ := TOks.move q h.tail
    exact ⟨.lst n' a, by rw [ads_lst n'.2.2, b]⟩
  | _, _, .dk n q, h => by
    rw [ads_dk n.2.2] at h ⊢
    have n' := n.move h
    obtain ⟨a, b⟩ := TOkk.move q h.tail
    exact ⟨.dk n' a, by rw [ads_dk n'.2.2, b]⟩
  | _, _, .dt n q, h => by
    rw [ads_dt n.2.2] at h ⊢
    have n' := n.move h
    obtain ⟨a, b⟩ := TOkt.move q h.tail
    exact ⟨.dt n' a, by rw [ads_dt n'.2.2, b]⟩
  | _, _, .ins m n q, h => by
    rw [ads_ins n.2.2] at h ⊢
    have n' := n.move h
    obtain ⟨a, b⟩ := TOkf.move q h.tail
    exact ⟨.ins m n' a, by rw [ads_ins n'.2.2, b]⟩
  | _, _, .tup f n q, h => by
    rw [ads_tup n] at h ⊢
    have f' := x _ _ f
    have n' := y _ _ n f'
    obtain ⟨a, b⟩ := TOks.move q h
    exact ⟨.tup f' n' a, by rw [ads_tup n', b]⟩
theorem TOks.move : ∀ {t : List T} {v : List V}, TOks G F H t v → Stay B' H F' H' (adsL H t v) → TOks ⟨G.K, G.mg, B'⟩ F' H' t v ∧ adsL H' t v = adsL H t v
  | _, _, .nil, h => ⟨.nil, by rw [adsL_nil, adsL_nil]⟩
  | _, _, .cons a b, h => by
    rw [adsL_cons] at h
    obtain ⟨a1, a2⟩ := TOk.move a h.left
    obtain ⟨b1, b2⟩ := TOks.move b h.right
    exact ⟨.cons a1 b1, by rw [adsL_cons, adsL_cons, a2, b2]⟩
theorem TOkk.move : ∀ {t : List (Key × T)} {v : List (Key × V)}, TOkk G F H t v → Stay B' H F' H' (adsK H t v) → TOkk ⟨G.K, G.mg, B'⟩ F' H' t v ∧ adsK H' t v = adsK H t v
  | _, _, .nil, h => ⟨.nil, by rw [adsK_nil, adsK_nil]⟩
  | _, _, .cons a b, h => by
    rw [adsK_cons] at h
    obtain ⟨a1, a2⟩ := TOk.move a h.left
    obtain ⟨b1, b2⟩ := TOkk.move b h.right
    exact ⟨.cons a1 b1, by rw [adsK_cons, adsK_cons, a2, b2]⟩
theorem TOkt.move : ∀ {t : List (List Key × T)} {v : List (List Key × V)}, TOkt G F H t v → Stay B' H F' H' (adsT H t v) → TOkt ⟨G.K, G.mg, B'⟩ F' H' t v ∧ adsT H' t v = adsT H t v
  | _, _, .nil, h => ⟨.nil, by rw [adsT_nil, adsT_nil]⟩
  | _, _, .cons a b, h => by
    rw [adsT_cons] at h
    obtain ⟨a1, a2⟩ := TOk.move a h.left
    obtain ⟨b1, b2⟩ := TOkt.move b h.right
    exact ⟨.cons a1 b1, by rw [adsT_cons, adsT_cons, a2, b2]⟩
theorem TOkf.move : ∀ {t : List (Str × T)} {v : List (Str × V)}, TOkf G F H t v → Stay B' H F' H' (adsF H t v) → TOkf ⟨G.K, G.mg, B'⟩ F' H' t v ∧ adsF H' t v = adsF H t v
  | _, _, .nil, h => ⟨.nil, by rw [adsF_nil, adsF_nil]⟩
  | _, _, .cons a b, h => by
    rw [adsF_cons] at h
    obtain ⟨a1, a2⟩ := TOk.move a h.left
    obtain ⟨b1, b2⟩ := TOkf.move b h.right
    exact ⟨.cons a1 b1, by rw [adsF_cons, adsF_cons, a2, b2]⟩
end
end
theorem EnOk.own_at {v : Option V} (h : EnOk G F H (v, k)) (ho : p ∈ adE H (v, k)) : Own1 G F H p := by
  cases k with
  | emp => cases ho
  | ali i => cases ho
  | dat d => cases ho
  | pdt d => cases ho
  | own d =>
    obtain ⟨q, rfl, o⟩ := h
    cases List.mem_singleton.mp ho
    exact o.one
  | par d =>
    obtain ⟨q, rfl, o⟩ := h
    cases List.mem_singleton.mp ho
    exact o.one
  | tre t =>
    obtain ⟨q, rfl, o, _⟩ := h
    exact o.one ho
  | ptr t =>
    obtain ⟨q, rfl, o, _⟩ := h
    exact o.one ho
theorem EnOk.move {B' : Base} (h : EnOk G F H e) (x : Ex F F') (y : Tu H F' H') (hF : Stay B' H F' H' (adE H e)) : EnOk ⟨G.K, G.mg, B'⟩ F' H' e ∧ adE H' e = adE H e := by
  obtain ⟨v, k⟩ := e
  cases k with
  | emp => exact ⟨trivial, rfl⟩
  | ali i => exact ⟨trivial, rfl⟩
  | dat d => obtain ⟨u, e, q⟩ := h; exact ⟨⟨u, e, q.mono x⟩, rfl⟩
  | pdt d => obtain ⟨u, e, q⟩ := h; exact ⟨⟨u, e, q.mono x⟩, rfl⟩
  | own d =>
    obtain ⟨p, rfl, h1, h2, o, h3, h4⟩ := h
    obtain ⟨f1, f2, f3⟩ := hF p (List.mem_singleton.mpr rfl)
    exact ⟨⟨p, rfl, f1, f3, o, by rw [f2]; exact h3, h4.grow x⟩, rfl⟩
  | par d =>
    obtain ⟨p, rfl, h1, h2, o, h3, h4⟩ := h
    obtain ⟨f1, f2, f3⟩ := hF p (List.mem_singleton.mpr rfl)
    exact ⟨⟨p, rfl, f1, f3, o, by rw [f2]; exact h3, h4.grow x⟩, rfl⟩
  | tre t =>
    obtain ⟨u, rfl, h1, h2⟩ := h
    obtain ⟨a, b⟩ := h1.move x y hF
    exact ⟨⟨u, rfl, a, by rw [b]; exact h2⟩, b⟩
  | ptr t =>
    obtain ⟨u, rfl, h1, h2⟩ := h
    obtain ⟨a, b⟩ := h1.move x y hF
    exact ⟨⟨u, rfl, a, by rw [b]; exact h2⟩, b⟩
theorem EnOk.grow (h : EnOk G F H e) (x : Ex F F') (y : Tu H F' H') (hF : ∀ q, q ∈ adE H e → F' q = none ∧ H' q = H q) : EnOk G F' H' e ∧ adE H' e = adE H e :=
  h.move (B' := G.B) x y fun q hq => ⟨(hF q hq).1, (hF q hq).2, by obtain ⟨v, k⟩ := e; exact (h.own_at hq).2.1⟩
theorem Good.grow (g : Good G F H E) (x : Ex F F') (y : Tu H F' H') (hF : ∀ (n : Nat) (e : Ent) q, E[n]? = some e → q ∈ adE H e → F' q = none ∧ H' q = H q) : Good G F' H' E :=
  ⟨fun n e he => ((g.all n e he).grow x y fun q hq => hF n e q he hq).1, fun m n e e' p h1 h2 o1 o2 => by
    rw [((g.all m e h1).grow x y fun q hq => hF m e q h1 hq).2] at o1
    rw [((g.all n e' h2).grow x y fun q hq => hF n e' q h2 hq).2] at o2
    exact g.nd m n e e' p h1 h2 o1 o2⟩
theorem Good.one (g : Good G F H E) {n : Nat} (he : E[n]? = some e) (ho : p ∈ adE H e) : Own1 G F H p := by
  obtain ⟨v, k⟩ := e
  exact (g.all n _ he).own_at ho
theorem Good.owned (g : Good G F H E) {n : Nat} (he : E[n]? = some e) (ho : p ∈ adE H e) : F p = none ∧ ∃ o, H p = some o := by
  obtain ⟨h1, _, o, h3, _⟩ := g.one he ho
  exact ⟨h1, o, h3⟩
theorem Good.new (g : Good G F H E) (hp : H p = none) : ∀ (n : Nat) (e : Ent) q, E[n]? = some e → q ∈ adE H e → q ≠ p := fun n e q he hq z => by
  obtain ⟨_, o, h⟩ := g.owned he hq
  rw [z, hp] at h; cases h
theorem Good.cons (g : Good G F H E) (h : EnOk G F H e) (hd : ∀ p, p ∈ adE H e → ∀ (n : Nat) (e' : Ent), E[n]? = some e' → p ∉ adE H e') : Good G F H (e :: E) := by
  refine ⟨fun n e' he => ?_, fun m n e1 e2 p h1 h2 o1 o2 => ?_⟩
  · cases n with
    | zero => rw [List.getElem?_cons_zero] at he; cases he; exact h
    | succ n => rw [List.getElem?_cons_succ] at he; exact g.all n e' he
  · cases m with
    | zero =>
      rw [List.getElem?_cons_zero] at h1; cases h1
      cases n with
      | zero => rfl
      | succ n => rw [List.getElem?_cons_succ] at h2; exact absurd o2 (hd p o1 n e2 h2)
    | succ m =>
      rw [List.getElem?_cons_succ] at h1
      cases n with
      | zero => rw [List.getElem?_cons_zero] at h2; cases h2; exact absurd o1 (hd p o2 m e1 h1)
      | succ n => rw [List.getElem?_cons_succ] at h2; rw [g.nd m n e1 e2 p h1 h2 o1 o2]
theorem Good.tail (g : Good G F H (e :: E)) : Good G F H E :=
  ⟨fun n e' he => g.all (n + 1) e' (by rw [List.getElem?_cons_succ]; exact he), fun m n e1 e2 p h1 h2 o1 o2 => by
    have := g.nd (m + 1) (n + 1) e1 e2 p (by rw [List.getElem?_cons_succ]; exact h1) (by rw [List.getElem?_cons_succ]; exact h2) o1 o2
    omega⟩
theorem Good.head (g : Good G F H (e :: E)) : EnOk G F H e := g.all 0 e rfl
theorem Good.head_ne (g : Good G F H (e :: E)) (ho : p ∈ adE H e) : ∀ (n : Nat) (e' : Ent), E[n]? = some e' → p ∉ adE H e' := fun n e' he z => by
  have := g.nd 0 (n + 1) e e' p rfl (by rw [List.getElem?_cons_succ]; exact he) ho z
  omega
theorem Good.set (g : Good G F H E) {n : Nat} (h : EnOk G F H e) (hd : ∀ p, p ∈ adE H e → ∀ (m : Nat) (e' : Ent), m ≠ n → E[m]? = some e' → p ∉ adE H e') : Good G F H (E.set n e) := by
  have look : ∀ (m : Nat) (e' : Ent), (E.set n e)[m]? = some e' → (m = n ∧ e' = e) ∨ (m ≠ n ∧ E[m]? = some e') := fun m e' he => by
    by_cases hm : m = n
    · subst hm
      rw [List.getElem?_set] at he
      simp only [if_true] at he
      split at he
      · cases he; exact .inl ⟨rfl, rfl⟩
      · cases he
    · rw [List.getElem?_set_ne (Ne.symm hm)] at he
      exact .inr ⟨hm, he⟩
  refine ⟨fun m e' he => ?_, fun m m' e1 e2 p h1 h2 o1 o2 => ?_⟩
  · rcases look m e' he with ⟨_, rfl⟩ | ⟨_, q⟩
    · exact h
    · exact g.all m e' q
  · rcases look m e1 h1 with ⟨a1, b1⟩ | ⟨a1, b1⟩ <;> rcases look m' e2 h2 with ⟨a2, b2⟩ | ⟨a2, b2⟩
    · rw [a1, a2]
    · rw [b1] at o1; exact absurd o2 (hd p o1 m' e2 a2 b2)
    · rw [b2] at o2; exact absurd o1 (hd p o2 m e1 a1 b1)
    · exact g.nd m m' e1 e2 p b1 b2 o1 o2
theorem Good.take (g : Good G F H E) {n : Nat} {e0 : Ent} (he : E[n]? = some e0) (x : Ex F F') (y : Tu H F' H') (hS : ∀ q, q ∉ adE H e0 → (F' q = F q ∨ H q = none) ∧ (H' q = H q ∨ H q = none))
    (h : EnOk G F' H' e) (hs : ∀ q, q ∈ adE H' e → q ∈ adE H e0 ∨ H q = none) : Good G F' H' (E.set n e) := by
  have other : ∀ {m : Nat} {e' : Ent} {q : Addr}, m ≠ n → E[m]? = some e' → q ∈ adE H e' → q ∉ adE H e0 ∧ F q = none ∧ ∃ o, H q = some o := fun {m e' q} hmn hm hq =>
    ⟨fun z => hmn (g.nd m n e' e0 q hm he hq z), g.owned hm hq⟩
  have st : ∀ {q : Addr} {o : HO}, H q = some o → F q = none → (F' q = F q ∨ H q = none) ∧ (H' q = H q ∨ H q = none) → F' q = none ∧ H' q = H q := fun c b s =>
    ⟨s.1.elim (fun z => z.trans b) (fun z => by rw [c] at z; cases z), s.2.elim id (fun z => by rw [c] at z; cases z)⟩
  have gr : Good G F' H' (E.set n (e0.1, .emp)) := by
    refine Good.grow (H := H) (F := F) (g.set (e := (e0.1, Slot.emp)) trivial fun q hq => by cases hq) x y fun m e' q hm hq => ?_
    by_cases hmn : m = n
    · subst hmn
      rw [List.getElem?_set] at hm
      simp only [if_true] at hm
      split at hm
      · cases hm; cases hq
      · cases hm
    · rw [List.getElem?_set_ne (Ne.symm hmn)] at hm
      obtain ⟨a, b, o, c⟩ := other hmn hm hq
      exact st c b (hS q a)
  have := gr.set (n := n) (e := e) h (fun q hq m e' hmn hm z => by
    rw [List.getElem?_set_ne (Ne.symm hmn)] at hm
    have ad : adE H' e' = adE H e' := ((g.all m e' hm).grow (F' := F') (H' := H') x y fun q' hq' => by
      obtain ⟨a, b, o, c⟩ := other hmn hm hq'
      exact st c b (hS q' a)).2
    rw [ad] at z
    obtain ⟨a, _, o, c⟩ := other hmn hm z
    rcases hs q hq with w | w
    · exact a w
    · rw [c] at w; cases w)
  rw [List.set_set] at this
  exact this
theorem Good.mut (g : Good G F H E) (y : Ex F H) {n : Nat} {v : Option V} {c : D → Slot} (hc : c = Slot.own ∨ c = Slot.par) (he : E[n]? = some (v, c d)) (ho : v = some (.ref p)) (hb : ObD G F o' d') :
    Good G F (L2.upd H p o') (E.set n (v, c d')) := by
  subst ho
  have own : ∀ {H : Hp} {d : D}, adE H (some (.ref p), c d) = [p] := fun {H d} => by rcases hc with rfl | rfl <;> rfl
  have o1 := g.one he (p := p) (by rw [own]; exact List.mem_singleton.mpr rfl)
  refine g.take he Ex.rfl (Ex.tu fun a u e => by rw [upd_ne (ne_of_none e o1.1)]; exact y a u e) (fun q hq => ⟨.inl rfl, .inl (upd_ne fun z => hq (by rw [own, z]; exact List.mem_singleton.mpr rfl))⟩) ?_ fun q hq => .inl (by rw [own] at hq ⊢; exact hq)
  have w : OwnAt G F (L2.upd H p o') p d' := ⟨o1.1, o1.2.1, o', upd_same, hb⟩
  rcases hc with rfl | rfl <;> exact ⟨p, rfl, w⟩
theorem Good.freeze (g : Good G F H E) (y : Ex F H) {n : Nat} {v : Option V} {c c' : D → Slot} (hc : c = Slot.own ∨ c = Slot.par) (hc' : c' = Slot.dat ∨ c' = Slot.pdt) (he : E[n]? = some (v, c d)) :
    ∃ p o, v = some (.ref p) ∧ F p = none ∧ H p = some o ∧ (G.B.H p = none ∨ G.B.W p) ∧ DD G.K G.mg (L2.upd F p o) d (.ref p) ∧ Good G (L2.upd F p o) H (E.set n (v, c' d)) := by
  have hk : ∃ p, v = some (.ref p) ∧ OwnAt G F H p d := by
    have := g.all n _ he
    rcases hc with rfl | rfl <;> exact this
  obtain ⟨p, rfl, h1, h2, o, h3, h4⟩ := hk
  have own : adE H (some (.ref p), c d) = [p] := by rcases hc with rfl | rfl <;> rfl
  have x : Ex F (L2.upd F p o) := Ex.upd h1
  have dd : DD G.K G.mg (L2.upd F p o) d (.ref p) := (h4.mono x).dd upd_same
  refine ⟨p, o, rfl, h1, h3, h2, dd, ?_⟩
  refine g.take he x (Ex.tu fun a u e => by
    by_cases ha : a = p
    · subst ha; rw [upd_same] at e; cases e; exact h3
    · rw [upd_ne ha] at e; exact y a u e) (fun q hq => ⟨.inl (upd_ne fun z => hq (by rw [own, z]; exact List.mem_singleton.mpr rfl)), .inl rfl⟩) (by rcases hc' with rfl | rfl <;> exact ⟨_, rfl, dd⟩) fun q hq => by rcases hc' with rfl | rfl <;> cases hq
theorem Good.perm {E' : List Ent} (g : Good G F H E) (h : E.Perm E') : Good G F H E' := by
  have pw : E.Pairwise fun a b => ∀ p, p ∈ adE H a → p ∉ adE H b := by
    rw [List.pairwise_iff_getElem]
    intro i j hi hj hij p h1 h2
    have := g.nd i j _ _ p (List.getElem?_eq_getElem hi) (List.getElem?_eq_getElem hj) h1 h2
    omega
  have pw' : E'.Pairwise fun a b => ∀ p, p ∈ adE H a → p ∉ adE H b := (h.pairwise_iff (fun {a b} q p h1 h2 => q p h2 h1)).mp pw
  rw [List.pairwise_iff_getElem] at pw'
  refine ⟨fun n e he => ?_, fun m n e e' p h1 h2 o1 o2 => ?_⟩
  · obtain ⟨k, hk⟩ := List.getElem?_of_mem (h.mem_iff.mpr (List.mem_of_getElem? he))
    exact g.all k e hk
  · obtain ⟨a1, b1⟩ := List.getElem?_eq_some_iff.mp h1
    obtain ⟨a2, b2⟩ := List.getElem?_eq_some_iff.mp h2
    rcases Nat.lt_trichotomy m n with z | z | z
    · exact absurd (by rw [b2]; exact o2) (pw' m n a1 a2 z p (by rw [b1]; exact o1))
    · exact z
    · exact absurd (by rw [b1]; exact o1) (pw' n m a2 a1 z p (by rw [b2]; exact o2))
section
variable (x : Ex F F')
include x
mutual
theorem TOk.dd : ∀ {t : T} {v : V}, TOk G F H t v → (∀ q, q ∈ ads H t v → F' q = H q) → DD G.K G.mg F' t.er v
  | _, _, .fz d, _ => by rw [T.er]; exact d.mono x
  | _, _, .fl (p := p) o, h => by
    rw [ads_fl] at h
    obtain ⟨_, _, u, e, g⟩ := o
    rw [T.er]
    exact (g.mono x).dd (by rw [h p (List.mem_singleton.mpr rfl)]; exact e)
  | _, _, .lst n q, h => by
    rw [ads_lst n.2.2] at h
    rw [T.er]
    exact .lst (by rw [h _ (List.mem_cons_self ..)]; exact n.2.2) (TOks.dd q fun a z => h a (List.mem_cons_of_mem _ z))
  | _, _, .dk n q, h => by
    rw [ads_dk n.2.2] at h
    rw [T.er]
    exact .dk (.inl (by rw [h _ (List.mem_cons_self ..)]; exact n.2.2)) (TOkk.dd q fun a z => h a (List.mem_cons_of_mem _ z))
  | _, _, .dt n q, h => by
    rw [ads_dt n.2.2] at h
    rw [T.er]
    exact .dt (.inl (by rw [h _ (List.mem_cons_self ..)]; exact n.2.2)) (TOkt.dd q fun a z => h a (List.mem_cons_of_mem _ z))
  | _, _, .ins m n q, h => by
    rw [ads_ins n.2.2] at h
    rw [T.er]
    exact .ins m (by rw [h _ (List.mem_cons_self ..)]; exact n.2.2) (TOkf.dd q fun a z => h a (List.mem_cons_of_mem _ z))
  | _, _, .tup f n q, h => by
    rw [ads_tup n] at h
    rw [T.er]
    exact .tup (x _ _ f) (TOks.dd q h)
theorem TOks.dd : ∀ {t : List T} {v : List V}, TOks G F H t v → (∀ q, q ∈ adsL H t v → F' q = H q) → DDs G.K G.mg F' (T.ers t) v
  | _, _, .nil, _ => by rw [T.ers]; exact .nil
  | _, _, .cons a b, h => by
    rw [adsL_cons] at h
    rw [T.ers]
    exact .cons (TOk.dd a fun q z => h q (List.mem_append_left _ z)) (TOks.dd b fun q z => h q (List.mem_append_right _ z))
theorem TOkk.dd : ∀ {t : List (Key × T)} {v : List (Key × V)}, TOkk G F H t v → (∀ q, q ∈ adsK H t v → F' q = H q) → DDk G.K G.mg F' (T.erk t) v
  | _, _, .nil, _ => by rw [T.erk]; exact .nil
  | _, _, .cons a b, h => by
    rw [adsK_cons] at h
    rw [T.erk]
    exact .cons (TOk.dd a fun q z => h q (List.mem_append_left _ z)) (TOkk.dd b fun q z => h q (List.mem_append_right _ z))
theorem TOkt.dd : ∀ {t : List (List Key × T)} {v : List (List Key × V)}, TOkt G F H t v → (∀ q, q ∈ adsT H t v → F' q = H q) → DDt G.K G.mg F' (T.ert t) v
  | _, _, .nil, _ => by rw [T.ert]; exact .nil
  | _, _, .cons a b, h => by
    rw [adsT_cons] at h
    rw [T.ert]
    exact .cons (TOk.dd a fun q z => h q (List.mem_append_left _ z)) (TOkt.dd b fun q z => h q (List.mem_append_right _ z))
theorem TOkf.dd : ∀ {t : List (Str × T)} {v : List (Str × V)}, TOkf G F H t v → (∀ q, q ∈ adsF H t v → F' q = H q) → DDf G.K G.mg F' (T.erf t) v
  | _, _, .nil, _ => by rw [T.erf]; exact .nil
  | _, _, .cons a b, h => by
    rw [adsF_cons] at h
    rw [T.erf]
    exact .cons (TOk.dd a fun q z => h q (List.mem_append_left _ z)) (TOkf.dd b fun q z => h q (List.mem_append_right _ z))
end
end
def frzS (F H : Hp) (S : List Addr) : Hp := fun q => if q ∈ S then H q else F q
theorem frzS_in {S : List Addr} {q : Addr} (h : q ∈ S) : frzS F H S q = H q := if_pos h
theorem frzS_out {S : List Addr} {q : Addr} (h : q ∉ S) : frzS F H S q = F q := if_neg h
theorem TOk.ex {t : T} (h : TOk G F H t v) : Ex F (frzS F H (ads H t v)) := fun a o e => by
  by_cases ha : a ∈ ads H t v
  · rw [(h.one ha).1] at e; cases e
  · rw [frzS_out ha]; exact e
theorem frzS_ex {S : List Addr} (x : Ex F H) : Ex (frzS F H S) H := fun a o e => by
  by_cases ha : a ∈ S
  · rw [frzS_in ha] at e; exact e
  · rw [frzS_out ha] at e; exact x a o e
theorem Good.freezeT (g : Good G F H E) (ex : Ex F H) {n : Nat} {v : Option V} {t : T} {c : T → Slot} {c' : D → Slot} (hc : c = Slot.tre ∨ c = Slot.ptr) (hc' : c' = Slot.dat ∨ c' = Slot.pdt) (he : E[n]? = some (v, c t)) :
    ∃ y, v = some y ∧ TOk G F H t y ∧ DD G.K G.mg (frzS F H (ads H t y)) t.er y ∧ Good G (frzS F H (ads H t y)) H (E.set n (v, c' t.er)) := by
  have hk : ∃ y, v = some y ∧ TOk G F H t y ∧ (ads H t y).Nodup := by
    have := g.all n _ he
    rcases hc with rfl | rfl <;> exact this
  obtain ⟨y, rfl, h1, h2⟩ := hk
  have own : adE H (some y, c t) = ads H t y := by rcases hc with rfl | rfl <;> rfl
  have x := h1.ex
  have dd := h1.dd x fun q hq => frzS_in hq
  refine ⟨y, rfl, h1, dd, ?_⟩
  refine g.take he x (frzS_ex ex).tu (fun q hq => ⟨.inl (frzS_out (by rw [own] at hq; exact hq)), .inl rfl⟩) (by rcases hc' with rfl | rfl <;> exact ⟨_, rfl, dd⟩) fun q hq => by rcases hc' with rfl | rfl <;> cases hq
end
section
variable {G : Cfg} {F F' H H' : Hp} {σ : St} {ls : LS} {vs : List V} {ks : List Slot} {v : V} {k : Slot} {d d' : D} {p : Addr} {o o' : HO} {i : Nat} {E : List Ent} {e e' : Ent}
theorem ent_loc (hk : vs.length = ks.length) : (ent vs ks σ ls)[vs.length + i]? = (σ.zip ls)[i]? := by
  unfold ent
  rw [List.getElem?_append_right (by simp [hk])]
  congr 1
  simp [hk]
theorem zip_at {v : Option V} (h1 : σ[i]? = some v) (h2 : ls[i]? = some k) : (σ.zip ls)[i]? = some (v, k) := by
  rw [List.getElem?_zip_eq_some]; exact ⟨h1, h2⟩
theorem zip_set {α β : Type} (a : α) (b : β) : ∀ (l : List α) (r : List β) (i : Nat), (l.set i a).zip (r.set i b) = (l.zip r).set i (a, b)
  | [], _, _ => by simp
  | _ :: _, [], _ => by simp
  | x :: l, y :: r, 0 => rfl
  | x :: l, y :: r, i + 1 => by
    show (x, y) :: (l.set i a).zip (r.set i b) = (x, y) :: (l.zip r).set i (a, b)
    rw [zip_set a b l r i]
theorem ent_set {v : Option V} (hk : vs.length = ks.length) : ent vs ks (σ.set i v) (ls.set i k) = (ent vs ks σ ls).set (vs.length + i) (v, k) := by
  unfold ent
  rw [zip_set, List.set_append]
  have h : ((vs.map some).zip ks).length = vs.length := by simp [hk]
  rw [h, if_neg (by omega)]
  congr 2
  omega
theorem ent_setl {v : Option V} (hk : vs.length = ks.length) (h1 : σ[i]? = some v) : ent vs ks σ (ls.set i k) = (ent vs ks σ ls).set (vs.length + i) (v, k) := by
  have : σ.set i v = σ := by
    obtain ⟨hl, he⟩ := List.getElem?_eq_some_iff.mp h1
    rw [← he]
    exact List.set_getElem_self hl
  rw [← ent_set hk, this]
theorem Rp.loc (R : Rp G F H σ ls vs ks) (h : ls[i]? = some k) : ∃ v, σ[i]? = some v ∧ EnOk G F H (v, k) := by
  have hl := (List.getElem?_eq_some_iff.mp h).1
  have hs : i < σ.length := by rw [R.len]; exact hl
  refine ⟨σ[i], List.getElem?_eq_getElem hs, R.good.all (vs.length + i) _ ?_⟩
  rw [ent_loc R.klen]
  exact zip_at (List.getElem?_eq_getElem hs) h
theorem Rp.pushDat (R : Rp G F H σ ls vs ks) (h : DD G.K G.mg F d v) : Rp G F H σ ls (v :: vs) (.dat d :: ks) :=
  ⟨R.ex, R.ex0, R.len, by simp [R.klen], R.good.cons (e := (some v, .dat d)) ⟨v, rfl, h⟩ (fun q hq => by cases hq), fun w i' hj => by
    rcases List.mem_cons.mp hj with z | z
    · cases z
    · exact R.al w i' z, R.pin, R.b1, R.b2, R.b3⟩
theorem Rp.pushAli (R : Rp G F H σ ls vs ks) (h1 : σ[i]? = some (some v)) (h2 : ls[i]? = some k) (hl : k.live = true) : Rp G F H σ ls (v :: vs) (.ali i :: ks) :=
  ⟨R.ex, R.ex0, R.len, by simp [R.klen], R.good.cons (e := (some v, .ali i)) trivial (fun q hq => by cases hq), fun w i' hj => by
    rcases List.mem_cons.mp hj with z | z
    · cases z; exact ⟨k, h1, h2, hl⟩
    · exact R.al w i' z, R.pin, R.b1, R.b2, R.b3⟩
theorem Rp.pop (R : Rp G F H σ ls (v :: vs) (k :: ks)) : Rp G F H σ ls vs ks :=
  ⟨R.ex, R.ex0, R.len, by have := R.klen; simpa using this, R.good.tail, fun w i' hj => R.al w i' (List.mem_cons_of_mem _ hj), R.pin, R.b1, R.b2, R.b3⟩
theorem Rp.popN : ∀ (as : List Slot) (ws : List V), ws.length = as.length → Rp G F H σ ls (ws ++ vs) (as ++ ks) → Rp G F H σ ls vs ks
  | [], [], _, R => R
  | _ :: as, _ :: ws, h, R => Rp.popN as ws (by simpa using h) R.pop
  | [], _ :: _, h, _ => by simp at h
  | _ :: _, [], h, _ => by simp at h
theorem Rp.rot {ws : List V} {as : List Slot} (hl : ws.length = as.length) (R : Rp G F H σ ls (ws ++ v :: vs) (as ++ k :: ks)) : Rp G F H σ ls (v :: (ws ++ vs)) (k :: (as ++ ks)) := by
  have z : ∀ {α : Type} (f : V → α), ((ws ++ v :: vs).map f).zip (as ++ k :: ks) = (ws.map f).zip as ++ (f v, k) :: (vs.map f).zip ks := fun f => by
    rw [List.map_append, List.zip_append (by simp [hl])]; rfl
  have z' : ∀ {α : Type} (f : V → α), ((v :: (ws ++ vs)).map f).zip (k :: (as ++ ks)) = (f v, k) :: ((ws.map f).zip as ++ (vs.map f).zip ks) := fun f => by
    rw [List.map_cons, List.zip_cons_cons, List.map_append, List.zip_append (by simp [hl])]
  have kl := R.klen
  refine ⟨R.ex, R.ex0, R.len, by simp at kl ⊢; omega, ?_, fun w i' hj => ?_, R.pin, R.b1, R.b2, R.b3⟩
  · refine R.good.perm ?_
    unfold ent
    rw [z some, z' some, List.append_assoc]
    rw [List.cons_append, List.cons_append, List.append_assoc]
    exact List.perm_middle
  · refine R.al w i' ?_
    have h1 := z id
    have h2 := z' id
    simp only [List.map_id] at h1 h2
    rw [h2] at hj
    rw [h1]
    simp only [List.mem_cons, List.mem_append] at hj ⊢
    rcases hj with q | q | q
    · exact .inr (.inl q)
    · exact .inl q
    · exact .inr (.inr q)
theorem Rp.fresh (R : Rp G F H σ ls vs ks) (hp : H p = none) : G.B.H p = none ∧ F p = none := by
  refine ⟨?_, ?_⟩
  · cases e : G.B.H p with
    | none => rfl
    | some o => exact absurd hp (R.b2 p (by rw [e]; exact Option.some_ne_none o))
  · cases e : F p with
    | none => rfl
    | some o => rw [R.ex p o e] at hp; cases hp
theorem Good.adNew (g : Good G F H E) (ex : Ex F H) (hp : H p = none) {n : Nat} (he : E[n]? = some e) : adE (L2.upd H p o) e = adE H e :=
  ((g.all n e he).grow (F' := F) (H' := L2.upd H p o) Ex.rfl (ex.trans (Ex.upd hp)).tu fun q hq => ⟨(g.owned he hq).1, upd_ne (g.new hp n e q he hq)⟩).2
theorem Rp.heapNew (R : Rp G F H σ ls vs ks) (hp : H p = none) : Rp G F (L2.upd H p o) σ ls vs ks :=
  ⟨R.ex.trans (Ex.upd hp), R.ex0, R.len, R.klen, R.good.grow Ex.rfl (R.ex.trans (Ex.upd hp)).tu fun n e q he hq => ⟨(R.good.owned he hq).1, upd_ne (R.good.new hp n e q he hq)⟩, R.al, R.pin,
    fun b u e => (R.b1 b u e).imp id fun z => (Ex.upd hp) b u z, fun b z => by
      by_cases hb : b = p
      · subst hb; rw [upd_same]; exact Option.some_ne_none _
      · rw [upd_ne hb]; exact R.b2 b z, R.b3⟩
theorem Rp.frzNew (R : Rp G F H σ ls vs ks) (hp : H p = none) : Rp G (L2.upd F p o) (L2.upd H p o) σ ls vs ks := by
  have R1 := R.heapNew (o := o) hp
  obtain ⟨hb, hf⟩ := R.fresh hp
  have ex2 : Ex (L2.upd F p o) (L2.upd H p o) := fun a u e => by
    by_cases ha : a = p
    · subst ha; rw [upd_same] at e ⊢; exact e
    · rw [upd_ne ha] at e ⊢; exact R.ex a u e
  refine ⟨ex2, R.ex0.trans (Ex.upd hf), R.len, R.klen, R1.good.grow (Ex.upd hf) ex2.tu fun n e q he hq => ⟨?_, rfl⟩, R.al, R.pin, R1.b1, R1.b2, fun b z => ?_⟩
  · rw [R.good.adNew R.ex hp he] at hq
    rw [upd_ne (R.good.new hp n e q he hq)]; exact (R.good.owned he hq).1
  · by_cases hbp : b = p
    · subst hbp; exact .inr (.inr (.inl hb))
    · rw [upd_ne hbp] at z ⊢; exact R.b3 b z
theorem Rp.pushOwn (R : Rp G F H σ ls vs ks) (hp : H p = none) (h : ObD G F o d) : Rp G F (L2.upd H p o) σ ls (.ref p :: vs) (.own d :: ks) := by
  have R1 := R.heapNew (o := o) hp
  obtain ⟨hb, hf⟩ := R.fresh hp
  refine ⟨R1.ex, R1.ex0, R1.len, by simp [R.klen], R1.good.cons (e := (some (.ref p), .own d)) ⟨p, rfl, hf, .inl hb, o, upd_same, h⟩ (fun q hq n e' he z => ?_), fun w i' hj => by
    rcases List.mem_cons.mp hj with z | z
    · cases z
    · exact R.al w i' z, R.pin, R1.b1, R1.b2, R1.b3⟩
  cases List.mem_singleton.mp hq
  have zz := z
  rw [R.good.adNew R.ex hp he] at zz
  exact R.good.new hp n e' p he zz rfl
theorem Rp.pushTup {ds : List D} {xs : List V} (R : Rp G F H σ ls vs ks) (hp : H p = none) (h : DDs G.K G.mg F ds xs) : Rp G (L2.upd F p (.tup xs)) (L2.upd H p (.tup xs)) σ ls (.ref p :: vs) (.dat (.tup ds) :: ks) :=
  (R.frzNew hp).pushDat (.tup upd_same (h.mono (Ex.upd (R.fresh hp).2)))
theorem Rp.base (R : Rp G F H σ ls vs ks) {n : Nat} {e : Ent} (he : (ent vs ks σ ls)[n]? = some e) (ho : p ∈ adE H e) : F p = none ∧ (G.B.H p = none ∨ G.B.W p) ∧ (∃ o, H p = some o) := by
  obtain ⟨v, k⟩ := e
  obtain ⟨h1, h2, o, h3, _⟩ := (R.good.all n _ he).own_at ho
  exact ⟨h1, h2, o, h3⟩
theorem Rp.mutB (R : Rp G F H σ ls vs ks) (h1 : F p = none) (h2 : G.B.H p = none ∨ G.B.W p) :
    (∀ b u, G.B.H b = some u → G.B.W b ∨ (L2.upd H p o') b = some u) ∧ (∀ b, G.B.H b ≠ none → (L2.upd H p o') b ≠ none) ∧ Ex F (L2.upd H p o') := by
  refine ⟨fun b u e => ?_, fun b z => ?_, fun a u e => ?_⟩
  · by_cases hb : b = p
    · subst hb
      rcases h2 with h2 | h2
      · rw [h2] at e; cases e
      · exact .inl h2
    · rw [upd_ne hb]; exact R.b1 b u e
  · by_cases hb : b = p
    · subst hb; rw [upd_same]; exact Option.some_ne_none _
    · rw [upd_ne hb]; exact R.b2 b z
  · have : a ≠ p := fun z => by rw [z, h1] at e; cases e
    rw [upd_ne this]; exact R.ex a u e
theorem Slot.own_or {c : D → Slot} (hc : c = Slot.own ∨ c = Slot.par) (d : D) : (c d).live = true := by rcases hc with rfl | rfl <;> rfl
theorem Rp.mutLoc {c : D → Slot} (R : Rp G F H σ ls vs ks) (hc : c = Slot.own ∨ c = Slot.par) (h1 : ls[i]? = some (c d)) (h2 : σ[i]? = some (some (.ref p))) (hb : ObD G F o' d') : Rp G F (L2.upd H p o') σ (ls.set i (c d')) vs ks := by
  have he : (ent vs ks σ ls)[vs.length + i]? = some (some (.ref p), c d) := by rw [ent_loc R.klen]; exact zip_at h2 h1
  have ho : p ∈ adE H (some (.ref p), c d) := by rcases hc with rfl | rfl <;> exact List.mem_singleton.mpr rfl
  obtain ⟨f1, f2, _⟩ := R.base he ho
  obtain ⟨m1, m2, m3⟩ := R.mutB (o' := o') f1 f2
  have hl := (List.getElem?_eq_some_iff.mp h1).1
  refine ⟨m3, R.ex0, by rw [List.length_set]; exact R.len, R.klen, ?_, fun w i' hj => ?_, fun i' d2 hd => ?_, m1, m2, R.b3⟩
  · rw [ent_setl R.klen h2]; exact R.good.mut R.ex hc he rfl hb
  · obtain ⟨s, a2, a3, a4⟩ := R.al w i' hj
    by_cases hi : i' = i
    · subst hi
      exact ⟨c d', a2, by rw [List.getElem?_set_self hl], Slot.own_or hc _⟩
    · exact ⟨s, a2, by rw [List.getElem?_set_ne (Ne.symm hi)]; exact a3, a4⟩
  · by_cases hi : i' = i
    · subst hi
      rw [List.getElem?_set_self hl] at hd
      rcases hc with rfl | rfl
      · rcases hd with z | z | z | ⟨_, z⟩ <;> cases z
      · exact R.pin i' d (.inl h1)
    · rw [List.getElem?_set_ne (Ne.symm hi)] at hd
      exact R.pin i' d2 hd
theorem Rp.mutTop (R : Rp G F H σ ls (.ref p :: vs) (.own d :: ks)) (hb : ObD G F o' d') : Rp G F (L2.upd H p o') σ ls (.ref p :: vs) (.own d' :: ks) := by
  have he : (ent (.ref p :: vs) (.own d :: ks) σ ls)[0]? = some (some (.ref p), .own d) := rfl
  obtain ⟨f1, f2, _⟩ := R.base he (List.mem_singleton.mpr rfl)
  obtain ⟨m1, m2, m3⟩ := R.mutB (o' := o') f1 f2
  refine ⟨m3, R.ex0, R.len, R.klen, ?_, fun w i' hj => ?_, R.pin, m1, m2, R.b3⟩
  · exact R.good.mut R.ex (c := .own) (.inl rfl) he rfl hb
  · rcases List.mem_cons.mp hj with z | z
    · cases z
    · exact R.al w i' (List.mem_cons_of_mem _ z)
theorem Rp.frzB (R : Rp G F H σ ls vs ks) (h1 : F p = none) (h2 : G.B.H p = none ∨ G.B.W p) (h3 : H p = some o) : Ex (L2.upd F p o) H ∧ Ex G.B.F (L2.upd F p o) ∧ (∀ b, (L2.upd F p o) b ≠ none → (∃ xs, (L2.upd F p o) b = some (.tup xs)) ∨ G.B.F b ≠ none ∨ G.B.H b = none ∨ G.B.W b) := by
  refine ⟨fun a u e => ?_, R.ex0.trans (Ex.upd h1), fun b z => ?_⟩
  · by_cases ha : a = p
    · subst ha; rw [upd_same] at e; cases e; exact h3
    · rw [upd_ne ha] at e; exact R.ex a u e
  · by_cases hb : b = p
    · subst hb; exact .inr (.inr h2)
    · rw [upd_ne hb] at z ⊢; exact R.b3 b z
def Slot.frz : Slot → Slot
  | .own d => .dat d
  | .par d => .pdt d
  | s => s
theorem Rp.frzLoc {c : D → Slot} (R : Rp G F H σ ls vs ks) (hc : c = Slot.own ∨ c = Slot.par) (h1 : ls[i]? = some (c d)) :
    ∃ p F', σ[i]? = some (some (.ref p)) ∧ Ex F F' ∧ DD G.K G.mg F' d (.ref p) ∧ Rp G F' H σ (ls.set i (c d).frz) vs ks := by
  obtain ⟨v, h2, _⟩ := R.loc h1
  have he : (ent vs ks σ ls)[vs.length + i]? = some (v, c d) := by rw [ent_loc R.klen]; exact zip_at h2 h1
  obtain ⟨c', hc', ec⟩ : ∃ c' : D → Slot, (c' = Slot.dat ∨ c' = Slot.pdt) ∧ (c d).frz = c' d := by
    rcases hc with rfl | rfl
    · exact ⟨_, .inl rfl, rfl⟩
    · exact ⟨_, .inr rfl, rfl⟩
  obtain ⟨p, o, rfl, f1, f3, f2, dd, g⟩ := R.good.freeze R.ex hc hc' he
  obtain ⟨m1, m2, m3⟩ := R.frzB f1 f2 f3
  have hl := (List.getElem?_eq_some_iff.mp h1).1
  refine ⟨p, _, h2, Ex.upd f1, dd, m1, m2, by rw [List.length_set]; exact R.len, R.klen, ?_, fun w i' hj => ?_, fun i' d2 hd => ?_, R.b1, R.b2, m3⟩
  · rw [ec, ent_setl R.klen h2]; exact g
  · obtain ⟨s, a2, a3, a4⟩ := R.al w i' hj
    by_cases hi : i' = i
    · subst hi
      exact ⟨_, a2, by rw [List.getElem?_set_self hl], by rw [ec]; rcases hc' with rfl | rfl <;> rfl⟩
    · exact ⟨s, a2, by rw [List.getElem?_set_ne (Ne.symm hi)]; exact a3, a4⟩
  · by_cases hi : i' = i
    · subst hi
      rw [List.getElem?_set_self hl] at hd
      rcases hc with rfl | rfl
      · rcases hd with z | z | z | ⟨_, z⟩ <;> cases z
      · exact R.pin i' d (.inl h1)
    · rw [List.getElem?_set_ne (Ne.symm hi)] at hd
      exact R.pin i' d2 hd
theorem Rp.frzTop (R : Rp G F H σ ls (v :: vs) (.own d :: ks)) : ∃ F', Ex F F' ∧ DD G.K G.mg F' d v ∧ Rp G F' H σ ls (v :: vs) (.dat d :: ks) := by
  have he : (ent (v :: vs) (.own d :: ks) σ ls)[0]? = some (some v, .own d) := rfl
  obtain ⟨p, o, e, f1, f3, f2, dd, g⟩ := R.good.freeze R.ex (.inl rfl) (c' := .dat) (.inl rfl) he
  cases e
  obtain ⟨m1, m2, m3⟩ := R.frzB f1 f2 f3
  refine ⟨_, Ex.upd f1, dd, m1, m2, R.len, R.klen, g, fun w i' hj => ?_, R.pin, R.b1, R.b2, m3⟩
  rcases List.mem_cons.mp hj with z | z
  · cases z
  · exact R.al w i' (List.mem_cons_of_mem _ z)
theorem Rp.frzBS (R : Rp G F H σ ls vs ks) {S : List Addr} (hS : ∀ q, q ∈ S → G.B.H q = none ∨ G.B.W q) (x : Ex F (frzS F H S)) : Ex (frzS F H S) H ∧ Ex G.B.F (frzS F H S) ∧ (∀ b, (frzS F H S) b ≠ none → (∃ xs, (frzS F H S) b = some (.tup xs)) ∨ G.B.F b ≠ none ∨ G.B.H b = none ∨ G.B.W b) := by
  refine ⟨frzS_ex R.ex, R.ex0.trans x, fun b z => ?_⟩
  by_cases hb : b ∈ S
  · exact .inr (.inr (hS b hb))
  · rw [frzS_out hb] at z ⊢; exact R.b3 b z
theorem Rp.frzLocT {t : T} {c : T → Slot} {c' : D → Slot} (R : Rp G F H σ ls vs ks) (hc : (c = Slot.tre ∧ c' = Slot.dat) ∨ (c = Slot.ptr ∧ c' = Slot.pdt)) (h1 : ls[i]? = some (c t)) :
    ∃ v F', σ[i]? = some (some v) ∧ Ex F F' ∧ DD G.K G.mg F' t.er v ∧ Rp G F' H σ (ls.set i (c' t.er)) vs ks := by
  obtain ⟨v, h2, _⟩ := R.loc h1
  have he : (ent vs ks σ ls)[vs.length + i]? = some (v, c t) := by rw [ent_loc R.klen]; exact zip_at h2 h1
  have hc1 : c = Slot.tre ∨ c = Slot.ptr := hc.imp And.left And.left
  have hc2 : c' = Slot.dat ∨ c' = Slot.pdt := hc.imp And.right And.right
  obtain ⟨y, rfl, f1, dd, g⟩ := R.good.freezeT R.ex hc1 hc2 he
  obtain ⟨m1, m2, m3⟩ := R.frzBS (fun q hq => (f1.one hq).2.1) f1.ex
  have hl := (List.getElem?_eq_some_iff.mp h1).1
  refine ⟨y, _, h2, f1.ex, dd, m1, m2, by rw [List.length_set]; exact R.len, R.klen, ?_, fun w i' hj => ?_, fun i' d2 hd => ?_, R.b1, R.b2, m3⟩
  · rw [ent_setl R.klen h2]; exact g
  · obtain ⟨s, a2, a3, a4⟩ := R.al w i' hj
    by_cases hi : i' = i
    · subst hi
      exact ⟨_, a2, by rw [List.getElem?_set_self hl], by rcases hc2 with rfl | rfl <;> rfl⟩
    · exact ⟨s, a2, by rw [List.getElem?_set_ne (Ne.symm hi)]; exact a3, a4⟩
  · by_cases hi : i' = i
    · subst hi
      rw [List.getElem?_set_self hl] at hd
      rcases hc with ⟨rfl, rfl⟩ | ⟨rfl, rfl⟩
      · rcases hd with z | z | z | ⟨_, z⟩ <;> cases z
      · exact R.pin i' (.non) (.inr (.inr (.inr ⟨t, h1⟩)))
    · rw [List.getElem?_set_ne (Ne.symm hi)] at hd
      exact R.pin i' d2 hd
theorem Rp.frzTopT {t : T} (R : Rp G F H σ ls (v :: vs) (.tre t :: ks)) : ∃ F', Ex F F' ∧ DD G.K G.mg F' t.er v ∧ Rp G F' H σ ls (v :: vs) (.dat t.er :: ks) := by
  have he : (ent (v :: vs) (.tre t :: ks) σ ls)[0]? = some (some v, .tre t) := rfl
  obtain ⟨y, e, f1, dd, g⟩ := R.good.freezeT R.ex (.inl rfl) (c' := .dat) (.inl rfl) he
  cases e
  obtain ⟨m1, m2, m3⟩ := R.frzBS (fun q hq => (f1.one hq).2.1) f1.ex
  refine ⟨_, f1.ex, dd, m1, m2, R.len, R.klen, g, fun w i' hj => ?_, R.pin, R.b1, R.b2, m3⟩
  rcases List.mem_cons.mp hj with z | z
  · cases z
  · exact R.al w i' (List.mem_cons_of_mem _ z)
def noAli (ks : List Slot) : Prop := ∀ i, Slot.ali i ∉ ks
theorem noAli.zip {vs : List V} (h : noAli ks) {w : V} : (w, Slot.ali i) ∉ vs.zip ks := fun z => h i (List.of_mem_zip z).2
def Slot.fit : Slot → Bool
  | .dat _ => true
  | .own _ => true
  | .emp => true
  | .tre _ => true
  | _ => false
theorem Rp.pinSet (R : Rp G F H σ ls vs ks) (hk : k.fit = true) {u : Option V} : ∀ (i' : Nat) (d : D), ((ls.set i k)[i']? = some (.par d) ∨ (ls.set i k)[i']? = some (.pdt d) ∨ (ls.set i k)[i']? = some (.ali 0) ∨ ∃ t, (ls.set i k)[i']? = some (.ptr t)) → ∃ v, G.B.P i' = some v ∧ (σ.set i u)[i']? = some v := fun i' d hd => by
  by_cases hi : i' = i
  · subst hi
    rw [List.getElem?_set] at hd
    simp only [if_true] at hd
    split at hd
    · rcases hd with z | z | z | ⟨_, z⟩ <;> (cases z; cases hk)
    · rcases hd with z | z | z | ⟨_, z⟩ <;> cases z
  · rw [List.getElem?_set_ne (Ne.symm hi)] at hd
    rw [List.getElem?_set_ne (Ne.symm hi)]
    exact R.pin i' d hd
theorem Rp.setTop (R : Rp G F H σ ls (v :: vs) (k :: ks)) (hn : noAli ks) (hk : k.fit = true) : Rp G F H (σ.set i (some v)) (ls.set i k) vs ks := by
  have R' := R.pop
  refine ⟨R.ex, R.ex0, by simp [R.len], R'.klen, ?_, fun w i' hj => absurd hj hn.zip, R.pinSet hk, R.b1, R.b2, R.b3⟩
  rw [ent_set R'.klen]
  refine R'.good.set R.good.head fun q hq m e' _ he => R.good.head_ne hq m e' he
theorem Rp.setNone (R : Rp G F H σ ls vs ks) (hn : Slot.ali i ∉ ks) : Rp G F H (σ.set i none) (ls.set i .emp) vs ks := by
  refine ⟨R.ex, R.ex0, by simp [R.len], R.klen, ?_, fun w i' hj => ?_, R.pinSet rfl, R.b1, R.b2, R.b3⟩
  · rw [ent_set R.klen]
    exact R.good.set trivial fun q hq => by cases hq
  · obtain ⟨s, a2, a3, a4⟩ := R.al w i' hj
    have : i' ≠ i := fun z => hn (by rw [← z]; exact (List.of_mem_zip hj).2)
    exact ⟨s, by rw [List.getElem?_set_ne (Ne.symm this)]; exact a2, by rw [List.getElem?_set_ne (Ne.symm this)]; exact a3, a4⟩
def look (ls : LS) : Slot → Option D
  | .dat d => some d
  | .pdt d => some d
  | .own d => some d
  | .par d => some d
  | .ali i => match ls[i]? with
    | some (.dat d) => some d
    | some (.pdt d) => some d
    | some (.own d) => some d
    | some (.par d) => some d
    | _ => none
  | _ => none
def Vw (G : Cfg) (F H : Hp) (v : V) (d : D) : Prop := DD G.K G.mg F d v ∨ ∃ p o, v = .ref p ∧ H p = some o ∧ ObD G F o d
theorem vw_en {v : V} (h : EnOk G F H (some v, k)) (hk : k = .dat d ∨ k = .pdt d ∨ k = .own d ∨ k = .par d) : Vw G F H v d := by
  rcases hk with rfl | rfl | rfl | rfl
  · obtain ⟨x, e, q⟩ := h; cases e; exact .inl q
  · obtain ⟨x, e, q⟩ := h; cases e; exact .inl q
  · obtain ⟨p, e, _, _, o, h3, h4⟩ := h; cases e; exact .inr ⟨p, o, rfl, h3, h4⟩
  · obtain ⟨p, e, _, _, o, h3, h4⟩ := h; cases e; exact .inr ⟨p, o, rfl, h3, h4⟩
theorem Rp.view (R : Rp G F H σ ls vs ks) {j : Nat} (h1 : vs[j]? = some v) (h2 : ks[j]? = some k) (hl : look ls k = some d) : Vw G F H v d := by
  have he : (ent vs ks σ ls)[j]? = some (some v, k) := by
    unfold ent
    rw [List.getElem?_append_left (by simp [R.klen]; exact (List.getElem?_eq_some_iff.mp h2).1), List.getElem?_zip_eq_some]
    exact ⟨by rw [List.getElem?_map, h1]; rfl, h2⟩
  have ok := R.good.all j _ he
  cases k with
  | emp => cases hl
  | dat _ => cases hl; exact vw_en ok (.inl rfl)
  | pdt _ => cases hl; exact vw_en ok (.inr (.inl rfl))
  | own _ => cases hl; exact vw_en ok (.inr (.inr (.inl rfl)))
  | par _ => cases hl; exact vw_en ok (.inr (.inr (.inr rfl)))
  | tre _ => cases hl
  | ptr _ => cases hl
  | ali i =>
    obtain ⟨s, a2, a3, a4⟩ := R.al v i (List.mem_of_getElem? (i := j) (by rw [List.getElem?_zip_eq_some]; exact ⟨h1, h2⟩))
    obtain ⟨w', b1, b2⟩ := R.loc a3
    rw [a2] at b1; cases b1
    simp only [look, a3] at hl
    cases s with
    | dat _ => cases hl; exact vw_en b2 (.inl rfl)
    | pdt _ => cases hl; exact vw_en b2 (.inr (.inl rfl))
    | own _ => cases hl; exact vw_en b2 (.inr (.inr (.inl rfl)))
    | par _ => cases hl; exact vw_en b2 (.inr (.inr (.inr rfl)))
    | _ => cases hl
theorem Rp.view0 (R : Rp G F H σ ls (v :: vs) (k :: ks)) (hl : look ls k = some d) : Vw G F H v d := R.view (j := 0) rfl rfl hl
section
variable (x : Ex F H)
include x
theorem Vw.non (h : Vw G F H v .non) : v = .non := by
  rcases h with h | ⟨p, o, _, _, h⟩
  · cases h; rfl
  · cases o <;> exact h.elim
theorem Vw.bl {b : Bool} (h : Vw G F H v (.bl b)) : v = .bl b := by
  rcases h with h | ⟨p, o, _, _, h⟩
  · cases h; rfl
  · cases o <;> exact h.elim
theorem Vw.int {b : Int} (h : Vw G F H v (.int b)) : v = .int b := by
  rcases h with h | ⟨p, o, _, _, h⟩
  · cases h; rfl
  · cases o <;> exact h.elim
theorem Vw.str {b : Str} (h : Vw G F H v (.str b)) : v = .str b := by
  rcases h with h | ⟨p, o, _, _, h⟩
  · cases h; rfl
  · cases o <;> exact h.elim
theorem Vw.lst {ds : List D} (h : Vw G F H v (.lst ds)) : ∃ a xs, v = .ref a ∧ H a = some (.lst xs) ∧ DDs G.K G.mg F ds xs := by
  rcases h with h | ⟨p, o, rfl, h, q⟩
  · cases h with | lst h q => exact ⟨_, _, rfl, x _ _ h, q⟩
  · cases o <;> first | exact q.elim | exact ⟨p, _, rfl, h, q⟩
theorem Vw.tup {ds : List D} (h : Vw G F H v (.tup ds)) : ∃ a xs, v = .ref a ∧ H a = some (.tup xs) ∧ DDs G.K G.mg F ds xs := by
  rcases h with h | ⟨p, o, rfl, h, q⟩
  · cases h with | tup h q => exact ⟨_, _, rfl, x _ _ h, q⟩
  · cases o <;> exact q.elim
theorem Vw.ktup {ds : List D} (h : Vw G F H v (.ktup ds)) : ∃ a xs, v = .ref a ∧ SqT G.K H a xs ∧ DDs G.K G.mg F ds xs := by
  rcases h with h | ⟨p, o, rfl, h, q⟩
  · cases h with | ktup h q => exact ⟨_, _, rfl, ex_t x h, q⟩
  · cases o <;> exact q.elim
theorem Vw.scr {ns : List Int} (h : Vw G F H v (.scr ns)) : ∃ a, v = .ref a ∧ SqL G.K H a (ns.map V.int) := by
  rcases h with h | ⟨p, o, rfl, h, q⟩
  · cases h with | scr h => exact ⟨_, rfl, ex_l x h⟩
  · cases o <;> exact q.elim
theorem Vw.dK {es : List (Key × D)} (h : Vw G F H v (.dK es)) : ∃ a kvs, v = .ref a ∧ Rd H a (.dK kvs) ∧ DDk G.K G.mg F es kvs := by
  rcases h with h | ⟨p, o, rfl, h, q⟩
  · cases h with | dk h q => exact ⟨_, _, rfl, ex_r x h, q⟩
  · cases o <;> first | exact q.elim | exact ⟨p, _, rfl, .inl h, q⟩
theorem Vw.dT {es : List (List Key × D)} (h : Vw G F H v (.dT es)) : ∃ a kvs, v = .ref a ∧ Rd H a (.dT kvs) ∧ DDt G.K G.mg F es kvs := by
  rcases h with h | ⟨p, o, rfl, h, q⟩
  · cases h with | dt h q => exact ⟨_, _, rfl, ex_r x h, q⟩
  · cases o <;> first | exact q.elim | exact ⟨p, _, rfl, .inl h, q⟩
theorem Vw.ins {y : Str} {gs : List (Str × D)} (h : Vw G F H v (.ins y gs)) : ∃ a C dx fs, v = .ref a ∧ G.mg y = some (.ref C) ∧ H a = some (.ins C dx fs) ∧ DDf G.K G.mg F gs fs := by
  rcases h with h | ⟨p, o, rfl, h, q⟩
  · cases h with | ins m h q => exact ⟨_, _, _, _, rfl, m, x _ _ h, q⟩
  · cases o <;> first | exact q.elim | exact ⟨p, _, _, _, rfl, q.1, h, q.2⟩
end
end
structure Exn where
  name : Str
  fs : List (Str × D)
inductive R where
  | ok (k : Slot) (ls : LS) | err (x : Exn) (ls : LS) | stk
inductive RA where
  | ok (as : List Slot) (ls : LS) | err (x : Exn) (ls : LS) | stk
inductive S where
  | nx (ls : LS) | ret (k : Slot) (ls : LS) | brk (ls : LS) | cnt (ls : LS) | err (x : Exn) (ls : LS) | stk
abbrev M := LS → R
abbrev AM := LS → RA
abbrev SM := LS → S
def R.bind (r : R) (f : Slot → LS → R) : R := match r with
  | .ok k ls => f k ls
  | .err x ls => .err x ls
  | .stk => .stk
def R.bindA (r : R) (f : Slot → LS → RA) : RA := match r with
  | .ok k ls => f k ls
  | .err x ls => .err x ls
  | .stk => .stk
def R.bindS (r : R) (f : Slot → LS → S) : S := match r with
  | .ok k ls => f k ls
  | .err x ls => .err x ls
  | .stk => .stk
def RA.bind (r : RA) (f : List Slot → LS → R) : R := match r with
  | .ok k ls => f k ls
  | .err x ls => .err x ls
  | .stk => .stk
def S.bind (r : S) (f : LS → S) : S := match r with
  | .nx ls => f ls
  | r => r
def ErrRel (G : Cfg) (F : Hp) (cls : Value) (d : Option Addr) (x : Exn) : Prop :=
  G.mg x.name = some cls ∧ ((d = none ∧ x.fs = []) ∨ ∃ dd fs, d = some dd ∧ F dd = some (.xd fs) ∧ DDf G.K G.mg F x.fs fs)
section
variable (G : Cfg) (W : WX)
def PostM (σ : L2.St) (vs : List V) (ks : List Slot) (r : R) (Q : VK) : Prop := match r with
  | .ok k ls' => ∀ v F' H', Rp G F' H' σ ls' (v :: vs) (k :: ks) → Q v H'
  | .err x ls' => ∀ cls d F' H', Rp G F' H' σ ls' vs ks → ErrRel G F' cls d x → W cls d σ H'
  | .stk => False
def PostA (σ : L2.St) (vs : List V) (ks : List Slot) (r : RA) (Q : List V → Hp → Prop) : Prop := match r with
  | .ok as ls' => ∀ ws F' H', ws.length = as.length → Rp G F' H' σ ls' (ws ++ vs) (as ++ ks) → Q ws H'
  | .err x ls' => ∀ cls d F' H', Rp G F' H' σ ls' vs ks → ErrRel G F' cls d x → W cls d σ H'
  | .stk => False
def PostT (σ : L2.St) (vs : List V) (ks : List Slot) (r : R) (Q : Bool → Hp → Prop) : Prop := match r with
  | .ok (.dat (.bl b)) ls' => ∀ F' H', Rp G F' H' σ ls' vs ks → Q b H'
  | .ok _ _ => False
  | .err x ls' => ∀ cls d F' H', Rp G F' H' σ ls' vs ks → ErrRel G F' cls d x → W cls d σ H'
  | .stk => False
def PostS (vs : List V) (ks : List Slot) (r : S) (D : Ends) : Prop := match r with
  | .nx ls' => ∀ σ' F' H', Rp G F' H' σ' ls' vs ks → D.nx σ' H'
  | .brk ls' => ∀ σ' F' H', Rp G F' H' σ' ls' vs ks → D.bk σ' H'
  | .cnt ls' => ∀ σ' F' H', Rp G F' H' σ' ls' vs ks → D.ct σ' H'
  | .ret k ls' => ∀ v σ' F' H', Rp G F' H' σ' ls' (v :: vs) (k :: ks) → D.rt v H'
  | .err x ls' => ∀ cls d σ' F' H', Rp G F' H' σ' ls' vs ks → ErrRel G F' cls d x → W cls d σ' H'
  | .stk => False
def tM (m : M) : TE := fun σ H Q => ∃ F ls vs ks, Rp G F H σ ls vs ks ∧ PostM G W σ vs ks (m ls) Q
def tA (m : AM) : TA := fun σ H Q => ∃ F ls vs ks, Rp G F H σ ls vs ks ∧ PostA G W σ vs ks (m ls) Q
def tT (m : M) : TT := fun σ H Q => ∃ F ls vs ks, Rp G F H σ ls vs ks ∧ PostT G W σ vs ks (m ls) Q
def tS (m : SM) : TS := fun D σ H => ∃ F ls vs ks, noAli ks ∧ Rp G F H σ ls vs ks ∧ PostS G W vs ks (m ls) D
end
theorem PE.imp {X : Cx} {e : Expr} {t t' : TE} (h : L2.PE X e t) (hi : ∀ σ H Q, t' σ H Q → t σ H Q) : L2.PE X e t' := ⟨fun pins s σ H Q I q => h.run pins s σ H Q I (hi σ H Q q)⟩
theorem PT.imp {X : Cx} {e : Expr} {t t' : TT} (h : L2.PT X e t) (hi : ∀ σ H Q, t' σ H Q → t σ H Q) : L2.PT X e t' := ⟨fun pins s σ H Q I q => h.run pins s σ H Q I (hi σ H Q q)⟩
theorem PW.imp {X : Cx} {e : Expr} {t t' : TT} (h : L2.PW X e t) (hi : ∀ σ H Q, t' σ H Q → t σ H Q) : L2.PW X e t' := ⟨fun wh pins s σ H Q I q => h.run wh pins s σ H Q I (hi σ H Q q)⟩
theorem PA.imp {X : Cx} {es : List Expr} {t t' : TA} (h : L2.PA X es t) (hi : ∀ σ H Q, t' σ H Q → t σ H Q) : L2.PA X es t' := ⟨fun pos pins s σ H Q I q => h.run pos pins s σ H Q I (hi σ H Q q)⟩
theorem PS.imp {X : Cx} {st : Stmt} {t t' : TS} (h : L2.PS X st t) (hi : ∀ D σ H, t' D σ H → t D σ H) : L2.PS X st t' := ⟨fun pins s σ H D I q => h.run pins s σ H D I (hi D σ H q)⟩
theorem PSs.imp {X : Cx} {st : List Stmt} {t t' : TS} (h : L2.PSs X st t) (hi : ∀ D σ H, t' D σ H → t D σ H) : L2.PSs X st t' := ⟨fun pins s σ H D I q => h.run pins s σ H D I (hi D σ H q)⟩
section
variable {G : Cfg} {W : WX} {F F' H H' : Hp} {σ : L2.St} {ls : LS} {vs : List V} {ks : List Slot} {v : V} {k : Slot} {d d' : D} {p : Addr} {o o' : HO} {i : Nat} {Q : VK}
theorem tM_bind {ma : M} {f : Slot → LS → R} (h : tM G W (fun ls => (ma ls).bind f) σ H Q) {C : VK}
    (hk : ∀ F ls vs ks v H' k, Rp G F H' σ ls (v :: vs) (k :: ks) → PostM G W σ vs ks (f k ls) Q → C v H') : tM G W ma σ H C := by
  obtain ⟨F, ls, vs, ks, r, po⟩ := h
  refine ⟨F, ls, vs, ks, r, ?_⟩
  cases e : ma ls with
  | ok k ls1 =>
    simp only [e, R.bind] at po
    exact fun v F' H' r' => hk F' ls1 vs ks v H' k r' po
  | err x ls1 => simp only [e, R.bind] at po; exact po
  | stk => simp only [e, R.bind, PostM] at po
end
def varM (i : Nat) : M := fun ls => match ls[i]? with
  | some (.dat d) => .ok (.dat d) ls
  | some (.pdt d) => .ok (.dat d) ls
  | some (.own _) => .ok (.ali i) ls
  | some (.par _) => .ok (.ali i) ls
  | some (.tre _) => .ok (.ali i) ls
  | some (.ptr _) => .ok (.ali i) ls
  | _ => .stk
def conM (d : D) : M := fun ls => .ok (.dat d) ls
abbrev cfg (X : Cx) (B : Base) : Cfg := ⟨X.K, X.mg, B⟩
section
variable {X : Cx} {B : Base} {W : WX} {e a b : Expr} {es : List Expr} {m ma mb : M} {am : AM} {i : Nat} {pos : Pos}
theorem imp_var {G : Cfg} {σ : L2.St} {H : Hp} {Q : VK} (h : tM G W (varM i) σ H Q) : tVar i σ H Q := by
  obtain ⟨F, ls, vs, ks, r, po⟩ := h
  cases e : ls[i]? with
  | none => simp only [varM, e, PostM] at po
  | some k =>
    obtain ⟨v, h1, h2⟩ := r.loc e
    cases k with
    | dat d =>
      simp only [varM, e] at po
      obtain ⟨x, rfl, q⟩ := h2
      exact ⟨x, h1, po x F H (r.pushDat q)⟩
    | pdt d =>
      simp only [varM, e] at po
      obtain ⟨x, rfl, q⟩ := h2
      exact ⟨x, h1, po x F H (r.pushDat q)⟩
    | own d =>
      simp only [varM, e] at po
      obtain ⟨q, rfl, _⟩ := h2
      exact ⟨_, h1, po _ F H (r.pushAli h1 e rfl)⟩
    | par d =>
      simp only [varM, e] at po
      obtain ⟨q, rfl, _⟩ := h2
      exact ⟨_, h1, po _ F H (r.pushAli h1 e rfl)⟩
    | tre t =>
      simp only [varM, e] at po
      obtain ⟨q, rfl, _⟩ := h2
      exact ⟨_, h1, po _ F H (r.pushAli h1 e rfl)⟩
    | ptr t =>
      simp only [varM, e] at po
      obtain ⟨q, rfl, _⟩ := h2
      exact ⟨_, h1, po _ F H (r.pushAli h1 e rfl)⟩
    | emp => simp only [varM, e, PostM] at po
    | ali _ => simp only [varM, e, PostM] at po
theorem e_var {x : Str} (i : Nat) (hN : X.N[i]? = some x := by rfl) (hv : Vis X.env.scope x := by first | exact Or.inl rfl | exact Or.inr (Or.inl rfl) | exact Or.inr (Or.inr rfl)) (hd : (x == ("__debug__" : Str)) = false := by decide)
    (hcd : (x == ("__classdict__" : Str)) = false := by decide) : L2.PE X (.Name x pos) (tM (cfg X B) W (varM i)) := PE.imp (pe_var hN hv hd hcd) fun _ _ _ h => imp_var h
theorem imp_con {G : Cfg} {σ : L2.St} {H : Hp} {Q : VK} {d : D} {v : V} (hd : ∀ F, DD G.K G.mg F d v) (h : tM G W (conM d) σ H Q) : Q v H := by
  obtain ⟨F, ls, vs, ks, r, po⟩ := h
  exact po v F H (r.pushDat (hd F))
theorem e_int {i : Int} {j : Nat} : L2.PE X (.Constant (.int i) j pos) (tM (cfg X B) W (conM (.int i))) := PE.imp pe_int fun _ _ _ h => imp_con (fun F => .int i) h
theorem e_bl {b : Bool} {j : Nat} : L2.PE X (.Constant (.bool b) j pos) (tM (cfg X B) W (conM (.bl b))) := PE.imp pe_bl fun _ _ _ h => imp_con (fun F => .bl b) h
theorem e_non {j : Nat} : L2.PE X (.Constant .none j pos) (tM (cfg X B) W (conM .non)) := PE.imp pe_non fun _ _ _ h => imp_con (fun F => .non) h
theorem e_str {x : Str} {j : Nat} : L2.PE X (.Constant (.str x) j pos) (tM (cfg X B) W (conM (.str x))) := PE.imp pe_str fun _ _ _ h => imp_con (fun F => .str x) h
end
def lift1 (g : D → Option Slot) (k : Slot) (ls : LS) : R := match look ls k with
  | some x => (match g x with
    | some k => .ok k ls
    | none => .stk)
  | none => .stk
def lift2 (g : D → D → Option Slot) (k1 k2 : Slot) (ls : LS) : R := match look ls k1, look ls k2 with
  | some x, some y => (match g x y with
    | some k => .ok k ls
    | none => .stk)
  | _, _ => .stk
def unM (g : D → Option Slot) (a : M) : M := fun ls => (a ls).bind fun k ls => lift1 g k ls
def binM (g : D → D → Option Slot) (a b : M) : M := fun ls => (a ls).bind fun k1 ls => (b ls).bind fun k2 ls => lift2 g k1 k2 ls
def OpM2 (G : Cfg) (r : R2) (g : D → D → Option Slot) : Prop := ∀ F H σ ls vs ks v w x y k Q, Rp G F H σ ls vs ks → Vw G F H v x → Vw G F H w y → g x y = some k →
  (∀ u F' H', Rp G F' H' σ ls (u :: vs) (k :: ks) → Q u H') → r v w H Q
def OpM1 (G : Cfg) (r : V → Hp → VK → Prop) (g : D → Option Slot) : Prop := ∀ F H σ ls vs ks v x k Q, Rp G F H σ ls vs ks → Vw G F H v x → g x = some k →
  (∀ u F' H', Rp G F' H' σ ls (u :: vs) (k :: ks) → Q u H') → r v H Q
theorem lift2_ok {G : Cfg} {W : WX} {r : R2} {g : D → D → Option Slot} (hr : OpM2 G r g) {F H σ ls vs ks v w k1 k2 Q} (R : Rp G F H σ ls (w :: v :: vs) (k2 :: k1 :: ks)) (po : PostM G W σ vs ks (lift2 g k1 k2 ls) Q) : r v w H Q := by
  cases e : look ls k1 with
  | none => simp only [lift2, e, PostM] at po
  | some x =>
    cases e1 : look ls k2 with
    | none => simp only [lift2, e, e1, PostM] at po
    | some y =>
      cases e2 : g x y with
      | none => simp only [lift2, e, e1, e2, PostM] at po
      | some k' =>
        simp only [lift2, e, e1, e2] at po
        exact hr F H σ ls vs ks v w x y k' Q R.pop.pop (R.pop.view0 e) (R.view0 e1) e2 po
theorem tM_two {G : Cfg} {W : WX} {ma mb : M} {f : Slot → Slot → LS → R} {σ : L2.St} {H : Hp} {Q : VK} {r : R2} (h : tM G W (fun ls => (ma ls).bind fun k1 ls => (mb ls).bind fun k2 ls => f k1 k2 ls) σ H Q)
    (hr : ∀ F ls vs ks v w k1 k2 H', Rp G F H' σ ls (w :: v :: vs) (k2 :: k1 :: ks) → PostM G W σ vs ks (f k1 k2 ls) Q → r v w H' Q) : tM G W ma σ H fun x H1 => tM G W mb σ H1 fun y H2 => r x y H2 Q := by
  refine tM_bind h fun F ls vs ks v H1 k R1 po => ?_
  refine ⟨F, ls, v :: vs, k :: ks, R1, ?_⟩
  cases e : mb ls with
  | ok k2 ls2 =>
    simp only [e, R.bind] at po
    exact fun w F2 H2 R2 => hr F2 ls2 vs ks v w k k2 H2 R2 po
  | err x ls2 =>
    simp only [e, R.bind] at po
    exact fun cls d F' H' r' e' => po cls d F' H' r'.pop e'
  | stk => simp only [e, R.bind, PostM] at po
section
variable {X : Cx} {B : Base} {W : WX} {e a b : Expr} {es : List Expr} {m ma mb : M} {am : AM} {i : Nat} {pos : Pos} {g : D → D → Option Slot} {g1 : D → Option Slot}
theorem imp_bin {G : Cfg} {r : R2} (hr : OpM2 G r g) {σ : L2.St} {H : Hp} {Q : VK} (h : tM G W (binM g ma mb) σ H Q) : tOp r (tM G W ma) (tM G W mb) σ H Q :=
  tM_two h fun F ls vs ks v w k1 k2 H' R po => lift2_ok hr R po
theorem e_bin {op : Operator} {r : R2} (ho : OpR X (binaryOp op) r) (hr : OpM2 (cfg X B) r g) (ha : L2.PE X a (tM (cfg X B) W ma)) (hb : L2.PE X b (tM (cfg X B) W mb)) : L2.PE X (.BinOp a op b pos) (tM (cfg X B) W (binM g ma mb)) :=
  PE.imp (pe_op ho ha hb) fun _ _ _ h => imp_bin hr h
theorem e_cmp {op : CmpOp} {r : R2} (ho : OpR X (compareOp op) r) (hr : OpM2 (cfg X B) r g) (ha : L2.PE X a (tM (cfg X B) W ma)) (hb : L2.PE X b (tM (cfg X B) W mb)) (hm : behindInMarks op b = false := by first | exact nomark _ | rfl) : L2.PE X (.Compare a [op] [b] pos) (tM (cfg X B) W (binM g ma mb)) :=
  PE.imp (pe_cmpR ho ha hb hm) fun _ _ _ h => imp_bin hr h
theorem e_ix {r : R2} (ho : IxR X r) (hr : OpM2 (cfg X B) r g) (ha : L2.PE X a (tM (cfg X B) W ma)) (hb : L2.PE X b (tM (cfg X B) W mb)) (hs : PlainIx b := by intro _ _; rfl) : L2.PE X (.Subscript a b pos) (tM (cfg X B) W (binM g ma mb)) :=
  PE.imp (pe_ix ho ha hb hs) fun _ _ _ h => imp_bin hr h
theorem tT_of {G : Cfg} {σ : L2.St} {H : Hp} {Q : Bool → Hp → Prop} (h : tT G W m σ H Q) : tM G W m σ H fun x H1 => ∃ c, x = .bl c ∧ Q c H1 := by
  obtain ⟨F, ls, vs, ks, r, po⟩ := h
  refine ⟨F, ls, vs, ks, r, ?_⟩
  cases e : m ls with
  | ok k ls1 =>
    rw [e] at po
    cases k with
    | dat d =>
      cases d with
      | bl b =>
        intro v F' H' R'
        have := R'.view0 (d := .bl b) rfl
        exact ⟨b, Vw.bl R'.ex this, po F' H' R'.pop⟩
      | _ => exact False.elim po
    | _ => exact False.elim po
  | err x ls1 => rw [e] at po; exact po
  | stk => rw [e] at po; exact False.elim po
theorem t_val (h : L2.PE X e (tM (cfg X B) W m)) (he : ∀ whole, isTrue e X.env whole = (do let v ← whole; standAt e.pos; holding [v] (truthy v)) := by intro _; rfl) : L2.PT X e (tT (cfg X B) W m) :=
  PT.imp (pt_val h he) fun _ _ _ h => tT_of h
theorem t_cmp {op : CmpOp} {r : R2} (ho : OpR X (compareOp op) r) (hr : OpM2 (cfg X B) r g) (ha : L2.PE X a (tM (cfg X B) W ma)) (hb : L2.PE X b (tM (cfg X B) W mb)) (hm : behindInMarks op b = false := by first | exact nomark _ | rfl) : L2.PT X (.Compare a [op] [b] pos) (tT (cfg X B) W (binM g ma mb)) :=
  PT.imp (pt_cmpR ho ha hb hm) fun σ H Q h => imp_bin hr (tT_of h)
def notM (a : M) : M := fun ls => (a ls).bind fun k ls => match k with
  | .dat (.bl b) => .ok (.dat (.bl (!b))) ls
  | _ => .stk
def andM (a b : M) : M := fun ls => (a ls).bind fun k ls => match k with
  | .dat (.bl true) => b ls
  | .dat (.bl false) => .ok (.dat (.bl false)) ls
  | _ => .stk
def orM (a b : M) : M := fun ls => (a ls).bind fun k ls => match k with
  | .dat (.bl true) => .ok (.dat (.bl true)) ls
  | .dat (.bl false) => b ls
  | _ => .stk
def iteM (c a b : M) : M := fun ls => (c ls).bind fun k ls => match k with
  | .dat (.bl true) => a ls
  | .dat (.bl false) => b ls
  | _ => .stk
theorem t_not (h : L2.PT X a (tT (cfg X B) W ma)) : L2.PT X (.UnaryOp .Not a pos) (tT (cfg X B) W (notM ma)) := PT.imp (pt_not h) fun σ H Q hq => by
  obtain ⟨F, ls, vs, ks, r, po⟩ := hq
  refine ⟨F, ls, vs, ks, r, ?_⟩
  cases e : ma ls with
  | ok k ls1 =>
    simp only [notM, e, R.bind] at po
    cases k with
    | dat d => cases d <;> first | exact po | exact False.elim po
    | _ => exact False.elim po
  | err x ls1 => simp only [notM, e, R.bind] at po; exact po
  | stk => simp only [notM, e, R.bind, PostT] at po
theorem w_or1 (h : L2.PT X a (tT (cfg X B) W ma)) : L2.PW X (.BoolOp .Or [a] pos) (tT (cfg X B) W ma) := pw_or1 h
theorem w_or (ha : L2.PT X a (tT (cfg X B) W ma)) (hb : L2.PW X (.BoolOp .Or (b :: es) pos) (tT (cfg X B) W mb)) : L2.PW X (.BoolOp .Or (a :: b :: es) pos) (tT (cfg X B) W (orM ma mb)) := PW.imp (pw_or ha hb) fun σ H Q hq => by
  obtain ⟨F, ls, vs, ks, r, po⟩ := hq
  refine ⟨F, ls, vs, ks, r, ?_⟩
  cases e : ma ls with
  | ok k ls1 =>
    simp only [orM, e, R.bind] at po
    cases k with
    | dat d =>
      cases d with
      | bl b =>
        cases b with
        | true =>
          intro F' H' R'
          rw [if_pos rfl]
          exact po F' H' R'
        | false =>
          intro F' H' R'
          rw [if_neg (by decide)]
          exact ⟨F', ls1, vs, ks, R', po⟩
      | _ => exact False.elim po
    | _ => exact False.elim po
  | err x ls1 => simp only [orM, e, R.bind] at po; exact po
  | stk => simp only [orM, e, R.bind, PostT] at po
theorem tM_bool {G : Cfg} {σ : L2.St} {H : Hp} {Q : VK} {f : Bool → LS → R} (h : tM G W (fun ls => (ma ls).bind fun k ls => match k with | .dat (.bl b) => f b ls | _ => .stk) σ H Q) {C : VK}
    (hk : ∀ F ls vs ks b H', Rp G F H' σ ls vs ks → PostM G W σ vs ks (f b ls) Q → C (.bl b) H') : tM G W ma σ H C := by
  refine tM_bind h fun F ls vs ks v H' k R' po => ?_
  cases k with
  | dat d =>
    cases d with
    | bl b =>
      have := Vw.bl R'.ex (R'.view0 (d := .bl b) rfl)
      subst this
      exact hk F ls vs ks b H' R'.pop po
    | _ => exact False.elim po
  | _ => exact False.elim po
theorem e_not (ha : L2.PE X a (tM (cfg X B) W ma)) : L2.PE X (.UnaryOp .Not a pos) (tM (cfg X B) W (notM ma)) := PE.imp (pe_not ha) fun σ H Q hq => by
  have : notM ma = fun ls => (ma ls).bind fun k ls => match k with | .dat (.bl c) => .ok (.dat (.bl (!c))) ls | _ => .stk := rfl
  rw [this] at hq
  exact tM_bool (f := fun c ls => .ok (.dat (.bl (!c))) ls) hq fun F ls vs ks c H' R' po => ⟨c, rfl, po _ _ _ (R'.pushDat (.bl (!c)))⟩
theorem e_ite {c : Expr} {mc : M} (hc : L2.PT X c (tT (cfg X B) W mc)) (ha : L2.PE X a (tM (cfg X B) W ma)) (hb : L2.PE X b (tM (cfg X B) W mb)) : L2.PE X (.IfExp c a b pos) (tM (cfg X B) W (iteM mc ma mb)) := PE.imp (pe_ifExp hc ha hb) fun σ H Q hq => by
  obtain ⟨F, ls, vs, ks, r, po⟩ := hq
  refine ⟨F, ls, vs, ks, r, ?_⟩
  cases e : mc ls with
  | ok k ls1 =>
    simp only [iteM, e, R.bind] at po
    cases k with
    | dat d =>
      cases d with
      | bl b =>
        cases b with
        | true =>
          intro F' H' R'
          rw [if_pos rfl]
          exact ⟨F', ls1, vs, ks, R', po⟩
        | false =>
          intro F' H' R'
          rw [if_neg (by decide)]
          exact ⟨F', ls1, vs, ks, R', po⟩
      | _ => exact False.elim po
    | _ => exact False.elim po
  | err x ls1 => simp only [iteM, e, R.bind] at po; exact po
  | stk => simp only [iteM, e, R.bind, PostM] at po
def nilA : AM := fun ls => .ok [] ls
def consA (m : M) (r : AM) : AM := fun ls => (m ls).bindA fun k ls => match r ls with
  | .ok as ls => .ok (k :: as) ls
  | .err x ls => .err x ls
  | .stk => .stk
theorem a_nil : L2.PA X [] (tA (cfg X B) W nilA) := PA.imp pa_nil fun σ H Q h => by
  obtain ⟨F, ls, vs, ks, r, po⟩ := h
  exact po [] F H rfl r
theorem a_cons (ha : L2.PE X e (tM (cfg X B) W m)) (hr : L2.PA X es (tA (cfg X B) W am)) (hs : starEach (e :: es) X.env = (false, eval e X.env) :: starEach es X.env := by rfl) : L2.PA X (e :: es) (tA (cfg X B) W (consA m am)) := PA.imp (pa_cons ha hr hs) fun σ H Q h => by
  obtain ⟨F, ls, vs, ks, r, po⟩ := h
  refine ⟨F, ls, vs, ks, r, ?_⟩
  cases e1 : m ls with
  | ok k ls1 =>
    simp only [consA, e1, R.bindA] at po
    intro v F1 H1 R1
    refine ⟨F1, ls1, v :: vs, k :: ks, R1, ?_⟩
    cases e2 : am ls1 with
    | ok as ls2 =>
      simp only [e2] at po
      intro ws F2 H2 hl R2
      exact po (v :: ws) F2 H2 (by simp [hl]) (R2.rot hl)
    | err x ls2 =>
      simp only [e2] at po
      exact fun cls d F' H' r' e' => po cls d F' H' r'.pop e'
    | stk => simp only [e2, PostA] at po
  | err x ls1 => simp only [consA, e1, R.bindA] at po; exact po
  | stk => simp only [consA, e1, R.bindA, PostA] at po
def freezeK (k : Slot) (ls : LS) : Option (D × LS) := match k with
  | .dat d => some (d, ls)
  | .own d => some (d, ls)
  | .tre t => some (t.er, ls)
  | .ali j => (match ls[j]? with
    | some (.own d) => some (d, ls.set j (.dat d))
    | some (.par d) => some (d, ls.set j (.pdt d))
    | some (.dat d) => some (d, ls)
    | some (.pdt d) => some (d, ls)
    | some (.tre t) => some (t.er, ls.set j (.dat t.er))
    | some (.ptr t) => some (t.er, ls.set j (.pdt t.er))
    | _ => none)
  | _ => none
theorem Rp.freezeK {G : Cfg} {F H : Hp} {σ : L2.St} {ls ls' : LS} {vs : List V} {ks : List Slot} {v : V} {k : Slot} {d : D} (R : Rp G F H σ ls (v :: vs) (k :: ks)) (h : VM.freezeK k ls = some (d, ls')) :
    ∃ F', Ex F F' ∧ Rp G F' H σ ls' (v :: vs) (.dat d :: ks) := by
  cases k with
  | dat d1 => cases h; exact ⟨F, Ex.rfl, R⟩
  | own d1 => cases h; obtain ⟨F', x, _, R'⟩ := R.frzTop; exact ⟨F', x, R'⟩
  | ali j =>
    obtain ⟨s, a1, a2, a3⟩ := R.al v j List.mem_cons_self
    simp only [VM.freezeK, a2] at h
    have R1 := R.pop
    cases s with
    | own d1 =>
      cases h
      obtain ⟨p, F', b1, x, dd, R2⟩ := R1.frzLoc (.inl rfl) a2
      rw [a1] at b1; cases b1
      exact ⟨F', x, R2.pushDat dd⟩
    | par d1 =>
      cases h
      obtain ⟨p, F', b1, x, dd, R2⟩ := R1.frzLoc (.inr rfl) a2
      rw [a1] at b1; cases b1
      exact ⟨F', x, R2.pushDat dd⟩
    | dat d1 =>
      cases h
      obtain ⟨w, b1, b2⟩ := R1.loc a2
      rw [a1] at b1; cases b1
      obtain ⟨y, b3, b4⟩ := b2
      cases b3
      exact ⟨F, Ex.rfl, R1.pushDat b4⟩
    | pdt d1 =>
      cases h
      obtain ⟨w, b1, b2⟩ := R1.loc a2
      rw [a1] at b1; cases b1
      obtain ⟨y, b3, b4⟩ := b2
      cases b3
      exact ⟨F, Ex.rfl, R1.pushDat b4⟩
    | tre t =>
      cases h
      obtain ⟨p, F', b1, x, dd, R2⟩ := R1.frzLocT (.inl ⟨rfl, rfl⟩) a2
      rw [a1] at b1; cases b1
      exact ⟨F', x, R2.pushDat dd⟩
    | ptr t =>
      cases h
      obtain ⟨p, F', b1, x, dd, R2⟩ := R1.frzLocT (.inr ⟨rfl, rfl⟩) a2
      rw [a1] at b1; cases b1
      exact ⟨F', x, R2.pushDat dd⟩
    | emp => cases h
    | ali _ => cases h
  | tre t => cases h; obtain ⟨F', x, _, R'⟩ := R.frzTopT; exact ⟨F', x, R'⟩
  | ptr t => cases h
  | pdt d1 => cases h
  | par d1 => cases h
  | emp => cases h
def frzM (m : M) : M := fun ls => (m ls).bind fun k ls => match freezeK k ls with
  | some (d, ls) => .ok (.dat d) ls
  | none => .stk
theorem e_frz (ha : L2.PE X e (tM (cfg X B) W m)) : L2.PE X e (tM (cfg X B) W (frzM m)) := PE.imp ha fun σ H Q h => by
  refine tM_bind h fun F ls vs ks v H' k R po => ?_
  cases e : VM.freezeK k ls with
  | none => simp only [e, PostM] at po
  | some q =>
    obtain ⟨d, ls'⟩ := q
    simp only [e] at po
    obtain ⟨F', _, R'⟩ := R.freezeK e
    exact po v F' H' R'
def dats : List Slot → Option (List D)
  | [] => some []
  | .dat d :: r => (dats r).map (d :: ·)
  | _ :: _ => none
theorem Rp.dats {G : Cfg} {F H : Hp} {σ : L2.St} {ls : LS} {vs : List V} {ks : List Slot} : ∀ {as : List Slot} {ws : List V} {ds : List D}, ws.length = as.length → VM.dats as = some ds → Rp G F H σ ls (ws ++ vs) (as ++ ks) → DDs G.K G.mg F ds ws
  | [], [], _, _, h, _ => by cases h; exact .nil
  | [], _ :: _, _, hl, _, _ => by simp at hl
  | _ :: _, [], _, hl, _, _ => by simp at hl
  | k :: as, w :: ws, ds, hl, h, R => by
    cases k with
    | dat d =>
      cases e : VM.dats as with
      | none => simp only [VM.dats, e] at h; cases h
      | some r =>
        simp only [VM.dats, e] at h
        cases h
        have hd : DD G.K G.mg F d w := by
          have := R.good.head
          obtain ⟨x, e1, e2⟩ := this
          cases e1; exact e2
        exact .cons hd (Rp.dats (by simpa using hl) e R.pop)
    | _ => cases h
theorem DDs.length {K : PySem.W.Frag} {mg : Str → Option Value} {F : Hp} : ∀ {ds : List D} {vs : List V}, DDs K mg F ds vs → ds.length = vs.length
  | _, _, .nil => rfl
  | _, _, .cons _ r => by simp [DDs.length r]
theorem line_of {n : Nat} (h : n ≤ 1000000) : n ≤ sizeLine := Nat.le_trans h (by decide)
theorem line_lt {n : Nat} (h : n < 1000000) : n < sizeLine := Nat.lt_of_lt_of_le h (by decide)
def tupM (am : AM) : M := fun ls => (am ls).bind fun as ls => match dats as with
  | some ds => if ds.length ≤ 1000 then .ok (.dat (.tup ds)) ls else .stk
  | none => .stk
def lstM (am : AM) : M := fun ls => (am ls).bind fun as ls => match dats as with
  | some ds => if ds.length ≤ 1000 then .ok (.own (.lst ds)) ls else .stk
  | none => .stk
theorem tA_bind {G : Cfg} {σ : L2.St} {H : Hp} {Q : VK} {f : List Slot → LS → R} (h : tM G W (fun ls => (am ls).bind f) σ H Q) {C : List V → Hp → Prop}
    (hk : ∀ F ls vs ks ws H' as, ws.length = as.length → Rp G F H' σ ls (ws ++ vs) (as ++ ks) → PostM G W σ vs ks (f as ls) Q → C ws H') : tA G W am σ H C := by
  obtain ⟨F, ls, vs, ks, r, po⟩ := h
  refine ⟨F, ls, vs, ks, r, ?_⟩
  cases e : am ls with
  | ok k ls1 =>
    simp only [e, RA.bind] at po
    exact fun v F' H' hl r' => hk F' ls1 vs ks v H' k hl r' po
  | err x ls1 => simp only [e, RA.bind] at po; exact po
  | stk => simp only [e, RA.bind, PostM] at po
theorem e_tup {x1 : Nat} (h : L2.PA X es (tA (cfg X B) W am)) : L2.PE X (.Tuple es x1 pos) (tM (cfg X B) W (tupM am)) := PE.imp (pe_tup h) fun σ H Q h => by
  refine tA_bind h fun F ls vs ks ws H' as hl R po => ?_
  cases e : VM.dats as with
  | none => simp only [e, PostM] at po
  | some ds =>
    simp only [e] at po
    have dd := R.dats hl e
    split at po
    · rename_i hz
      refine ⟨line_of (by rw [← dd.length]; omega), fun p hp => ?_⟩
      exact po _ _ _ ((Rp.popN as ws hl R).pushTup hp dd)
    · exact False.elim po
theorem e_lst (h : L2.PA X es (tA (cfg X B) W am)) : L2.PE X (.List es pos) (tM (cfg X B) W (lstM am)) := PE.imp (pe_lst h) fun σ H Q h => by
  refine tA_bind h fun F ls vs ks ws H' as hl R po => ?_
  cases e : VM.dats as with
  | none => simp only [e, PostM] at po
  | some ds =>
    simp only [e] at po
    have dd := R.dats hl e
    split at po
    · rename_i hz
      refine ⟨line_of (by rw [← dd.length]; omega), fun p hp => ?_⟩
      exact po _ _ _ ((Rp.popN as ws hl R).pushOwn hp (d := .lst ds) dd)
    · exact False.elim po
end
mutual
def toPy : D → Option PyData
  | .non => some .none
  | .bl b => some (.bool b)
  | .int i => some (.int i)
  | .str s => some (.str s)
  | .lst ds => (toPys ds).map .list
  | .tup ds => (toPys ds).map .tuple
  | .ktup ds => (toPys ds).map .tuple
  | .dK _ => none
  | .dT _ => none
  | .ins _ _ => none
  | .scr _ => none
  | .exc _ _ => none
def toPys : List D → Option (List PyData)
  | [] => some []
  | d :: ds => match toPy d, toPys ds with
    | some p, some ps => some (p :: ps)
    | _, _ => none
end
section
variable {K : PySem.W.Frag} {mg : Str → Option Value} {H : Hp}
mutual
theorem dp_of : ∀ {d : D} {v : V} {p : PyData}, DD K mg H d v → toPy d = some p → Dp K H v p
  | _, _, _, .non, h => by cases h; exact .non
  | _, _, _, .bl b, h => by cases h; exact .bl b
  | _, _, _, .int b, h => by cases h; exact .int b
  | _, _, _, .str b, h => by cases h; exact .str b
  | .lst ds, _, _, .lst a r, h => by
    cases e : toPys ds with
    | none => simp only [toPy, e, Option.map_none] at h; cases h
    | some ps =>
      simp only [toPy, e, Option.map_some] at h
      cases h
      exact .lst (SqL.of a) (dps_of r e)
  | .tup ds, _, _, .tup a r, h => by
    cases e : toPys ds with
    | none => simp only [toPy, e, Option.map_none] at h; cases h
    | some ps =>
      simp only [toPy, e, Option.map_some] at h
      cases h
      exact .tup (SqT.of a) (dps_of r e)
  | .ktup ds, _, _, .ktup a r, h => by
    cases e : toPys ds with
    | none => simp only [toPy, e, Option.map_none] at h; cases h
    | some ps =>
      simp only [toPy, e, Option.map_some] at h
      cases h
      exact .tup a (dps_of r e)
  | _, _, _, .dk _ _, h => by cases h
  | _, _, _, .dt _ _, h => by cases h
  | _, _, _, .ins _ _ _, h => by cases h
  | _, _, _, .scr _, h => by cases h
  | _, _, _, .exc _ _ _ _, h => by cases h
theorem dps_of : ∀ {d : List D} {v : List V} {p : List PyData}, DDs K mg H d v → toPys d = some p → DpAll K H v p
  | _, _, _, .nil, h => by cases h; exact .nil
  | d :: ds, _, _, .cons a r, h => by
    cases e : toPy d with
    | none => simp only [toPys, e] at h; cases h
    | some q =>
      cases e2 : toPys ds with
      | none => simp only [toPys, e, e2] at h; cases h
      | some qs =>
        simp only [toPys, e, e2] at h
        cases h
        exact .cons (dp_of a e) (dps_of r e2)
end
end
section
variable {G : Cfg} {F H : Hp} {v w : V} {d d' : D}
theorem vw_dp {p : PyData} (x : Ex F H) (h : Vw G F H v d) (e : toPy d = some p) : Dp G.K H v p := by
  rcases h with h | ⟨q, o, rfl, h1, h2⟩
  · exact dp_of (h.mono x) e
  · have h2' : ObD G H o d := h2.mono x
    exact dp_of (h2'.dd h1) e
theorem Vw.dd_tup {ds : List D} (h : Vw G F H v (.tup ds)) : DD G.K G.mg F (.tup ds) v := by
  rcases h with h | ⟨p, o, rfl, h, q⟩
  · exact h
  · cases o <;> exact q.elim
end
abbrev lim : Nat := 1000000
def addD : D → D → Option Slot
  | .int i, .int j => some (.dat (.int (i + j)))
  | .str a, .str b => if a.length + b.length ≤ lim then some (.dat (.str (a ++ b))) else none
  | .lst a, .lst b => if a.length + b.length ≤ lim then some (.own (.lst (a ++ b))) else none
  | .tup a, .tup b => if a.length + b.length ≤ lim then some (.dat (.tup (a ++ b))) else none
  | _, _ => none
def subD : D → D → Option Slot
  | .int i, .int j => some (.dat (.int (i - j)))
  | _, _ => none
def mulD : D → D → Option Slot
  | .int i, .int j => if ((-(2 ^ 64) < i ∧ i < 2 ^ 64) ∨ (-(2 ^ 64) < j ∧ j < 2 ^ 64)) ∨ i.natAbs.log2 + j.natAbs.log2 < 1000000 then some (.dat (.int (i * j))) else none
  | .lst a, .int k => if 0 ≤ k ∧ k < 100000 ∧ a.length * k.toNat ≤ lim then some (.own (.lst (List.replicate k.toNat a).flatten)) else none
  | _, _ => none
def fdivD : D → D → Option Slot
  | .int i, .int j => if 0 < j ∧ j.natAbs.log2 < 9000 then some (.dat (.int (i / j))) else none
  | _, _ => none
def modD : D → D → Option Slot
  | .int i, .int j => if 0 < j then some (.dat (.int (i % j))) else none
  | _, _ => none
def powD : D → D → Option Slot
  | .int i, .int j => if 0 ≤ j ∧ j ≤ 1000 ∧ i.natAbs < 1000 then some (.dat (.int (i ^ j.toNat))) else none
  | _, _ => none
def negD : D → Option Slot
  | .int i => some (.dat (.int (-i)))
  | _ => none
def ltD : D → D → Option Slot
  | .int i, .int j => some (.dat (.bl (decide (i < j))))
  | _, _ => none
def leD : D → D → Option Slot
  | .int i, .int j => some (.dat (.bl (decide (i ≤ j))))
  | _, _ => none
def gtD : D → D → Option Slot
  | .int i, .int j => some (.dat (.bl (decide (j < i))))
  | _, _ => none
def geD : D → D → Option Slot
  | .int i, .int j => some (.dat (.bl (decide (j ≤ i))))
  | _, _ => none
def eqP (x y : D) : Option Bool := match toPy x, toPy y with
  | some a, some b => if SeqAt.shaped a = true ∧ SeqAt.shaped b = true then some (PyData.eqv a b) else none
  | _, _ => none
def eqD (x y : D) : Option Slot := (eqP x y).map fun b => .dat (.bl b)
def neD (x y : D) : Option Slot := (eqP x y).map fun b => .dat (.bl (!b))
theorem DDs.append {K : PySem.W.Frag} {mg : Str → Option Value} {F : Hp} : ∀ {a b : List D} {xs ys : List V}, DDs K mg F a xs → DDs K mg F b ys → DDs K mg F (a ++ b) (xs ++ ys)
  | _, _, _, _, .nil, h => h
  | _, _, _, _, .cons h r, q => .cons h (DDs.append r q)
theorem DDs.rep {K : PySem.W.Frag} {mg : Str → Option Value} {F : Hp} {a : List D} {xs : List V} (h : DDs K mg F a xs) : ∀ n : Nat, DDs K mg F (List.replicate n a).flatten (List.replicate n xs).flatten
  | 0 => .nil
  | n + 1 => by
    rw [List.replicate_succ, List.replicate_succ, List.flatten_cons, List.flatten_cons]
    exact h.append (DDs.rep h n)
theorem DDs.get {K : PySem.W.Frag} {mg : Str → Option Value} {F : Hp} : ∀ {a : List D} {xs : List V} {i : Nat} {d : D}, DDs K mg F a xs → a[i]? = some d → ∃ v, xs[i]? = some v ∧ DD K mg F d v
  | _, _, _, _, .nil, h => by simp at h
  | _, _, 0, _, .cons h r, q => by simp at q; subst q; exact ⟨_, rfl, h⟩
  | _, _, i + 1, _, .cons h r, q => by
    obtain ⟨v, h1, h2⟩ := DDs.get (i := i) r (by simpa using q)
    exact ⟨v, by simpa using h1, h2⟩
theorem DDs.nil_iff {K : PySem.W.Frag} {mg : Str → Option Value} {F : Hp} {a : List D} {xs : List V} (h : DDs K mg F a xs) : xs = [] ↔ a = [] := by
  cases h <;> simp
theorem ite_some {c : Prop} [Decidable c] {α : Type} {a k : α} (h : (if c then some a else none) = some k) : c ∧ k = a := by
  split at h
  · rename_i hc
    cases h
    exact ⟨hc, rfl⟩
  · cases h
section
variable {G : Cfg}
theorem op2_int {g : D → D → Option Slot} {C : Int → Int → Prop} {f : Int → Int → D} {fv : Int → Int → V} (hf : ∀ i j F, DD G.K G.mg F (f i j) (fv i j))
    (hg : ∀ x y k, g x y = some k → ∃ i j, x = .int i ∧ y = .int j ∧ C i j ∧ k = .dat (f i j)) : OpM2 G (rI C fv) g := by
  intro F H σ ls vs ks v w x y k Q R h1 h2 e q
  obtain ⟨i, j, rfl, rfl, c, rfl⟩ := hg x y k e
  exact ⟨i, j, Vw.int R.ex h1, Vw.int R.ex h2, c, q _ _ _ (R.pushDat (hf i j F))⟩
theorem op2_int0 {g : D → D → Option Slot} {f : Int → Int → D} {fv : Int → Int → V} (hf : ∀ i j F, DD G.K G.mg F (f i j) (fv i j))
    (hg : ∀ x y k, g x y = some k → ∃ i j, x = .int i ∧ y = .int j ∧ k = .dat (f i j)) : OpM2 G (rI0 fv) g := by
  intro F H σ ls vs ks v w x y k Q R h1 h2 e q
  obtain ⟨i, j, rfl, rfl, rfl⟩ := hg x y k e
  exact ⟨i, j, Vw.int R.ex h1, Vw.int R.ex h2, q _ _ _ (R.pushDat (hf i j F))⟩
theorem m_sub : OpM2 G (rI0 fun i j => .int (i - j)) subD := op2_int0 (f := fun i j => .int (i - j)) (fun _ _ _ => .int _) fun x y k e => by
  cases x <;> cases y <;> first | (cases e; exact ⟨_, _, rfl, rfl, rfl⟩) | cases e
theorem m_fdiv : OpM2 G (rI CDivW fun i j => .int (i / j)) fdivD := op2_int (f := fun i j => .int (i / j)) (fun _ _ _ => .int _) fun x y k e => by
  cases x <;> cases y <;> first | (obtain ⟨c, rfl⟩ := ite_some e; exact ⟨_, _, rfl, rfl, c, rfl⟩) | cases e
theorem m_mod : OpM2 G (rI (fun _ j => 0 < j) fun i j => .int (i % j)) modD := op2_int (f := fun i j => .int (i % j)) (fun _ _ _ => .int _) fun x y k e => by
  cases x <;> cases y <;> first | (obtain ⟨c, rfl⟩ := ite_some e; exact ⟨_, _, rfl, rfl, c, rfl⟩) | cases e
theorem m_pow : OpM2 G (rI CPow fun i j => .int (i ^ j.toNat)) powD := op2_int (f := fun i j => .int (i ^ j.toNat)) (fun _ _ _ => .int _) fun x y k e => by
  cases x <;> cases y <;> first
    | (obtain ⟨c, rfl⟩ := ite_some e; exact ⟨_, _, rfl, rfl, ⟨c.1, by omega, Nat.lt_of_lt_of_le c.2.2 (by decide)⟩, rfl⟩)
    | cases e
theorem m_lt : OpM2 G (rI0 fun i j => .bl (decide (i < j))) ltD := op2_int0 (f := fun i j => .bl (decide (i < j))) (fun _ _ _ => .bl _) fun x y k e => by
  cases x <;> cases y <;> first | (cases e; exact ⟨_, _, rfl, rfl, rfl⟩) | cases e
theorem m_gt : OpM2 G (rI0 fun i j => .bl (decide (j < i))) gtD := op2_int0 (f := fun i j => .bl (decide (j < i))) (fun _ _ _ => .bl _) fun x y k e => by
  cases x <;> cases y <;> first | (cases e; exact ⟨_, _, rfl, rfl, rfl⟩) | cases e
def rAddU (K : PySem.W.Frag) : R2 := fun x y H Q => (∃ i j, x = .int i ∧ y = .int j ∧ Q (.int (i + j)) H) ∨ (∃ i j, x = .str i ∧ y = .str j ∧ i.length + j.length ≤ sizeLine ∧ Q (.str (i ++ j)) H) ∨ rCat x y H Q ∨ rCatA K x y H Q
theorem o_add {X : Cx} : OpR X (binaryOp .Add) (rAddU X.K) := op_add.or (op_add_str.or (op_cat.or op_catA))
theorem m_add : OpM2 G (rAddU G.K) addD := by
  intro F H σ ls vs ks v w x y k Q R h1 h2 e q
  cases x <;> cases y <;> first
    | (cases e; exact .inl ⟨_, _, Vw.int R.ex h1, Vw.int R.ex h2, q _ _ _ (R.pushDat (.int _))⟩)
    | (simp only [addD] at e
       split at e
       · rename_i c
         cases e
         first
           | exact .inr (.inl ⟨_, _, Vw.str R.ex h1, Vw.str R.ex h2, line_of c, q _ _ _ (R.pushDat (.str _))⟩)
           | (obtain ⟨a, xs, rfl, e1, d1⟩ := Vw.lst R.ex h1
              obtain ⟨b, ys, rfl, e2, d2⟩ := Vw.lst R.ex h2
              exact .inr (.inr (.inl ⟨a, b, xs, ys, rfl, rfl, e1, e2, line_of (by rw [← d1.length, ← d2.length]; exact c), fun p hp => q _ _ _ (R.pushOwn hp (o := .lst (xs ++ ys)) (d1.append d2))⟩)))
           | (have f1 := h1.dd_tup
              have f2 := h2.dd_tup
              obtain ⟨a, xs, rfl, e1, d1⟩ := Vw.tup R.ex h1
              obtain ⟨b, ys, rfl, e2, d2⟩ := Vw.tup R.ex h2
              refine .inr (.inr (.inr ⟨a, b, xs, ys, rfl, rfl, SqT.of e1, SqT.of e2, line_of (by rw [← d1.length, ← d2.length]; exact c), fun z => ?_, fun _ z => ?_, fun _ _ p hp => ?_⟩))
              · rw [(d1.nil_iff).mp z] at q
                exact q _ _ _ (R.pushDat f2)
              · rw [(d2.nil_iff).mp z, List.append_nil] at q
                exact q _ _ _ (R.pushDat f1)
              · exact q _ _ _ (R.pushTup hp (d1.append d2)))
       · cases e)
    | cases e
def rMulU : R2 := fun x y H Q => (rI CMul (fun i j => .int (i * j)) x y H Q ∨ rI CMulW (fun i j => .int (i * j)) x y H Q) ∨ rRep x y H Q
theorem o_mul {X : Cx} : OpR X (binaryOp .Mult) rMulU := (op_mul.or op_mulW).or op_rep
theorem m_mul : OpM2 G rMulU mulD := by
  intro F H σ ls vs ks v w x y k Q R h1 h2 e q
  cases x <;> cases y <;> first
    | (simp only [mulD] at e
       split at e
       · rename_i c
         cases e
         first
           | exact .inl (c.elim (fun c => .inl ⟨_, _, Vw.int R.ex h1, Vw.int R.ex h2, c, q _ _ _ (R.pushDat (.int _))⟩) fun c => .inr ⟨_, _, Vw.int R.ex h1, Vw.int R.ex h2, c, q _ _ _ (R.pushDat (.int _))⟩)
           | (obtain ⟨a, xs, rfl, e1, d1⟩ := Vw.lst R.ex h1
              have e2 := Vw.int R.ex h2
              obtain ⟨c1, c2, c3⟩ := c
              exact .inr ⟨a, _, xs, rfl, e2, e1, by omega, by omega, line_of (by rw [← d1.length]; exact c3), fun p hp => q _ _ _ (R.pushOwn hp (o := .lst _) (d1.rep _))⟩)
       · cases e)
    | cases e
theorem m_eq : OpM2 G (rEqD G.K) eqD := by
  intro F H σ ls vs ks v w x y k Q R h1 h2 e q
  cases e1 : toPy x with
  | none => simp only [eqD, eqP, e1, Option.map_none] at e; cases e
  | some a =>
    cases e2 : toPy y with
    | none => simp only [eqD, eqP, e1, e2, Option.map_none] at e; cases e
    | some b =>
      simp only [eqD, eqP, e1, e2] at e
      split at e
      · rename_i c
        cases e
        exact ⟨a, b, vw_dp R.ex h1 e1, vw_dp R.ex h2 e2, c.1, c.2, q _ _ _ (R.pushDat (.bl _))⟩
      · cases e
theorem m_ne : OpM2 G (rNeD G.K) neD := by
  intro F H σ ls vs ks v w x y k Q R h1 h2 e q
  cases e1 : toPy x with
  | none => simp only [neD, eqP, e1, Option.map_none] at e; cases e
  | some a =>
    cases e2 : toPy y with
    | none => simp only [neD, eqP, e1, e2, Option.map_none] at e; cases e
    | some b =>
      simp only [neD, eqP, e1, e2] at e
      split at e
      · rename_i c
        cases e
        exact ⟨a, b, vw_dp R.ex h1 e1, vw_dp R.ex h2 e2, c.1, c.2, q _ _ _ (R.pushDat (.bl _))⟩
      · cases e
end
def keyK : D → Option Key
  | .int i => some (.inl i)
  | .str s => some (.inr s)
  | _ => none
def keysK : List D → Option (List Key)
  | [] => some []
  | d :: ds => match keyK d, keysK ds with
    | some k, some r => some (k :: r)
    | _, _ => none
def keyT : D → Option (List Key)
  | .tup ds => keysK ds
  | _ => none
section
variable {κ : Type} [DecidableEq κ] {α : Type}
def getG (es : List (κ × α)) (k : κ) : Option α := (es.find? fun e => decide (e.1 = k)).map (·.2)
def putG (es : List (κ × α)) (k : κ) (v : α) : List (κ × α) := if es.any (fun e => decide (e.1 = k)) then es.map (fun e => if e.1 = k then (e.1, v) else e) else es ++ [(k, v)]
end
theorem keyK_kV {G : Cfg} {F H : Hp} (x : Ex F H) {v : V} {d : D} {k : Key} (h : Vw G F H v d) (e : keyK d = some k) : v = kV k := by
  cases d <;> cases e
  · exact Vw.int x h
  · exact Vw.str x h
theorem keyK_dd {K : PySem.W.Frag} {mg : Str → Option Value} {F : Hp} {v : V} {d : D} {k : Key} (h : DD K mg F d v) (e : keyK d = some k) : v = kV k := by
  cases h <;> cases e <;> rfl
theorem keysK_dd {K : PySem.W.Frag} {mg : Str → Option Value} {F : Hp} : ∀ {ds : List D} {xs : List V} {k : List Key}, DDs K mg F ds xs → keysK ds = some k → xs = k.map kV
  | _, _, _, .nil, h => by cases h; rfl
  | d :: ds, _, _, .cons a r, h => by
    cases e : keyK d with
    | none => simp only [keysK, e] at h; cases h
    | some q =>
      cases e2 : keysK ds with
      | none => simp only [keysK, e, e2] at h; cases h
      | some qs =>
        simp only [keysK, e, e2] at h
        cases h
        rw [keyK_dd a e, keysK_dd r e2]
        rfl
theorem keyT_vw {G : Cfg} {F H : Hp} (x : Ex F H) {v : V} {d : D} {k : List Key} (h : Vw G F H v d) (e : keyT d = some k) : ∃ b, v = .ref b ∧ H b = some (.tup (k.map kV)) := by
  cases d <;> first | cases e | skip
  rename_i ds
  obtain ⟨b, xs, rfl, h1, h2⟩ := Vw.tup x h
  exact ⟨b, rfl, by rw [h1, keysK_dd h2 e]⟩
theorem ddk_get {K : PySem.W.Frag} {mg : Str → Option Value} {F : Hp} {k : Key} : ∀ {es : List (Key × D)} {kvs : List (Key × V)}, DDk K mg F es kvs →
    (getG es k = none ∧ valV kvs k = none) ∨ ∃ d v, getG es k = some d ∧ valV kvs k = some v ∧ DD K mg F d v
  | _, _, .nil => .inl ⟨rfl, rfl⟩
  | _, _, .cons (k := k') (d := d) (v := v) a r => by
    by_cases h : k' = k
    · refine .inr ⟨d, v, ?_, valV_pos h, a⟩
      simp [getG, h]
    · rcases ddk_get (k := k) r with ⟨h1, h2⟩ | ⟨d', v', h1, h2, h3⟩
      · refine .inl ⟨?_, by rw [valV_neg h]; exact h2⟩
        simpa [getG, h] using h1
      · refine .inr ⟨d', v', ?_, by rw [valV_neg h]; exact h2, h3⟩
        simpa [getG, h] using h1
theorem ddt_get {K : PySem.W.Frag} {mg : Str → Option Value} {F : Hp} {k : List Key} : ∀ {es : List (List Key × D)} {kvs : List (List Key × V)}, DDt K mg F es kvs →
    (getG es k = none ∧ valV kvs k = none) ∨ ∃ d v, getG es k = some d ∧ valV kvs k = some v ∧ DD K mg F d v
  | _, _, .nil => .inl ⟨rfl, rfl⟩
  | _, _, .cons (k := k') (d := d) (v := v) a r => by
    by_cases h : k' = k
    · refine .inr ⟨d, v, ?_, valV_pos h, a⟩
      simp [getG, h]
    · rcases ddt_get (k := k) r with ⟨h1, h2⟩ | ⟨d', v', h1, h2, h3⟩
      · refine .inl ⟨?_, by rw [valV_neg h]; exact h2⟩
        simpa [getG, h] using h1
      · refine .inr ⟨d', v', ?_, by rw [valV_neg h]; exact h2, h3⟩
        simpa [getG, h] using h1
theorem ddk_any {K : PySem.W.Frag} {mg : Str → Option Value} {F : Hp} {k : Key} : ∀ {es : List (Key × D)} {kvs : List (Key × V)}, DDk K mg F es kvs → (es.any fun e => decide (e.1 = k)) = kvs.any fun e => decide (e.1 = k)
  | _, _, .nil => rfl
  | _, _, .cons a r => by rw [List.any_cons, List.any_cons, ddk_any r]
theorem ddt_any {K : PySem.W.Frag} {mg : Str → Option Value} {F : Hp} {k : List Key} : ∀ {es : List (List Key × D)} {kvs : List (List Key × V)}, DDt K mg F es kvs → (es.any fun e => decide (e.1 = k)) = kvs.any fun e => decide (e.1 = k)
  | _, _, .nil => rfl
  | _, _, .cons a r => by rw [List.any_cons, List.any_cons, ddt_any r]
theorem DDk.append {K : PySem.W.Frag} {mg : Str → Option Value} {F : Hp} : ∀ {a b : List (Key × D)} {xs ys : List (Key × V)}, DDk K mg F a xs → DDk K mg F b ys → DDk K mg F (a ++ b) (xs ++ ys)
  | _, _, _, _, .nil, h => h
  | _, _, _, _, .cons h r, q => .cons h (DDk.append r q)
theorem DDt.append {K : PySem.W.Frag} {mg : Str → Option Value} {F : Hp} : ∀ {a b : List (List Key × D)} {xs ys : List (List Key × V)}, DDt K mg F a xs → DDt K mg F b ys → DDt K mg F (a ++ b) (xs ++ ys)
  | _, _, _, _, .nil, h => h
  | _, _, _, _, .cons h r, q => .cons h (DDt.append r q)
theorem ddk_map {K : PySem.W.Frag} {mg : Str → Option Value} {F : Hp} {k : Key} {d : D} {v : V} (h : DD K mg F d v) : ∀ {es : List (Key × D)} {kvs : List (Key × V)}, DDk K mg F es kvs →
    DDk K mg F (es.map fun e => if e.1 = k then (e.1, d) else e) (kvs.map fun e => if e.1 = k then (e.1, v) else e)
  | _, _, .nil => .nil
  | _, _, .cons (k := k') a r => by
    rw [List.map_cons, List.map_cons]
    by_cases hk : k' = k
    · rw [if_pos hk, if_pos hk]; exact .cons h (ddk_map h r)
    · rw [if_neg hk, if_neg hk]; exact .cons a (ddk_map h r)
theorem ddt_map {K : PySem.W.Frag} {mg : Str → Option Value} {F : Hp} {k : List Key} {d : D} {v : V} (h : DD K mg F d v) : ∀ {es : List (List Key × D)} {kvs : List (List Key × V)}, DDt K mg F es kvs →
    DDt K mg F (es.map fun e => if e.1 = k then (e.1, d) else e) (kvs.map fun e => if e.1 = k then (e.1, v) else e)
  | _, _, .nil => .nil
  | _, _, .cons (k := k') a r => by
    rw [List.map_cons, List.map_cons]
    by_cases hk : k' = k
    · rw [if_pos hk, if_pos hk]; exact .cons h (ddt_map h r)
    · rw [if_neg hk, if_neg hk]; exact .cons a (ddt_map h r)
theorem ddk_put {K : PySem.W.Frag} {mg : Str → Option Value} {F : Hp} {k : Key} {d : D} {v : V} (h : DD K mg F d v) {es : List (Key × D)} {kvs : List (Key × V)} (r : DDk K mg F es kvs) : DDk K mg F (putG es k d) (putK kvs k v) := by
  unfold putG putK
  rw [ddk_any r]
  split
  · exact ddk_map h r
  · exact r.append (.cons h .nil)
theorem ddt_put {K : PySem.W.Frag} {mg : Str → Option Value} {F : Hp} {k : List Key} {d : D} {v : V} (h : DD K mg F d v) {es : List (List Key × D)} {kvs : List (List Key × V)} (r : DDt K mg F es kvs) : DDt K mg F (putG es k d) (putK kvs k v) := by
  unfold putG putK
  rw [ddt_any r]
  split
  · exact ddt_map h r
  · exact r.append (.cons h .nil)
theorem DDk.length {K : PySem.W.Frag} {mg : Str → Option Value} {F : Hp} : ∀ {es : List (Key × D)} {kvs : List (Key × V)}, DDk K mg F es kvs → es.length = kvs.length
  | _, _, .nil => rfl
  | _, _, .cons _ r => by simp [DDk.length r]
theorem DDt.length {K : PySem.W.Frag} {mg : Str → Option Value} {F : Hp} : ∀ {es : List (List Key × D)} {kvs : List (List Key × V)}, DDt K mg F es kvs → es.length = kvs.length
  | _, _, .nil => rfl
  | _, _, .cons _ r => by simp [DDt.length r]
def flatD : D → Bool
  | .non => true
  | .bl _ => true
  | .int _ => true
  | .str _ => true
  | _ => false
def eqF : D → D → Bool
  | .non, .non => true
  | .bl a, .bl b => a == b
  | .bl a, .int b => (if a then 1 else 0) == b
  | .int a, .bl b => a == (if b then 1 else 0)
  | .int a, .int b => a == b
  | .str a, .str b => a == b
  | _, _ => false
def inP (x y : D) : Option Bool := match y with
  | .lst ds => (match toPy x, toPys ds with
    | some a, some bs => if SeqAt.shaped a = true ∧ SeqAt.shaped (.list bs) = true then some (bs.any fun z => PyData.eqv z a) else none
    | _, _ => none)
  | .tup ds => if flatD x = true ∧ ds.all flatD = true then some (ds.any fun y => eqF y x) else none
  | .ktup ds => if flatD x = true ∧ ds.all flatD = true then some (ds.any fun y => eqF y x) else none
  | .str b => (match x with
    | .str a => some (!(Builtin.Str.occurrences b a 0 b.length 1).isEmpty)
    | _ => none)
  | .dK es => (match keyK x with
    | some k => some (getG es k).isSome
    | none => none)
  | .dT es => (match keyT x with
    | some k => some (getG es k).isSome
    | none => none)
  | _ => none
def inD (x y : D) : Option Slot := (inP x y).map fun b => .dat (.bl b)
def ninD (x y : D) : Option Slot := (inP x y).map fun b => .dat (.bl (!b))
def rInDic : R2 := fun x y H Q => ∃ a o, y = .ref a ∧ DGet H a x o ∧ Q (.bl o.isSome) H
def rNinDic : R2 := fun x y H Q => ∃ a o, y = .ref a ∧ DGet H a x o ∧ Q (.bl (!o.isSome)) H
def rInU (K : PySem.W.Frag) : R2 := fun x y H Q => rInD K x y H Q ∨ rIn K false x y H Q ∨ (∃ i j, x = .str i ∧ y = .str j ∧ Q (.bl (!(Builtin.Str.occurrences j i 0 j.length 1).isEmpty)) H) ∨ rInDic x y H Q
def rNinU (K : PySem.W.Frag) : R2 := fun x y H Q => rNotInD K x y H Q ∨ rIn K true x y H Q ∨ (∃ i j, x = .str i ∧ y = .str j ∧ Q (.bl (!(!(Builtin.Str.occurrences j i 0 j.length 1).isEmpty))) H) ∨ rNinDic x y H Q
section
variable {G : Cfg}
theorem dget_k {F H : Hp} (x : Ex F H) {v w : V} {d : D} {k : Key} {es : List (Key × D)} (h : Vw G F H v d) (e : keyK d = some k) (h2 : Vw G F H w (.dK es)) :
    ∃ a o, w = .ref a ∧ DGet H a v o ∧ o.isSome = (getG es k).isSome ∧ ∀ r, getG es k = some r → ∃ z, o = some z ∧ DD G.K G.mg F r z := by
  obtain ⟨a, kvs, rfl, h3, h4⟩ := Vw.dK x h2
  have ev := keyK_kV x h e
  subst ev
  refine ⟨a, valV kvs k, rfl, .inl ⟨kvs, k, h3, rfl, rfl⟩, ?_, fun r hr => ?_⟩
  · rcases ddk_get (k := k) h4 with ⟨q1, q2⟩ | ⟨_, _, q1, q2, _⟩ <;> rw [q1, q2] <;> rfl
  · rcases ddk_get (k := k) h4 with ⟨q1, q2⟩ | ⟨d', v', q1, q2, q3⟩
    · rw [q1] at hr; cases hr
    · rw [q1] at hr; cases hr; exact ⟨v', q2, q3⟩
theorem dget_t {F H : Hp} (x : Ex F H) {v w : V} {d : D} {k : List Key} {es : List (List Key × D)} (h : Vw G F H v d) (e : keyT d = some k) (h2 : Vw G F H w (.dT es)) :
    ∃ a o, w = .ref a ∧ DGet H a v o ∧ o.isSome = (getG es k).isSome ∧ ∀ r, getG es k = some r → ∃ z, o = some z ∧ DD G.K G.mg F r z := by
  obtain ⟨a, kvs, rfl, h3, h4⟩ := Vw.dT x h2
  obtain ⟨b, rfl, hb⟩ := keyT_vw x h e
  refine ⟨a, valV kvs k, rfl, .inr ⟨kvs, k, b, h3, rfl, hb, rfl⟩, ?_, fun r hr => ?_⟩
  · rcases ddt_get (k := k) h4 with ⟨q1, q2⟩ | ⟨_, _, q1, q2, _⟩ <;> rw [q1, q2] <;> rfl
  · rcases ddt_get (k := k) h4 with ⟨q1, q2⟩ | ⟨d', v', q1, q2, q3⟩
    · rw [q1] at hr; cases hr
    · rw [q1] at hr; cases hr; exact ⟨v', q2, q3⟩
end
def ixD : D → D → Option Slot
  | .lst ds, .int i => (atI ds i).map .dat
  | .tup ds, .int i => (atI ds i).map .dat
  | .scr ns, .int i => (atI ns i).map fun n => .dat (.int n)
  | .str s, .int i => if s.length ≤ lim then (atI s.cps.toList i).map fun c => .dat (.str ⟨#[c]⟩) else none
  | .dK es, x => (match keyK x with
    | some k => (getG es k).map .dat
    | none => none)
  | .dT es, x => (match keyT x with
    | some k => (getG es k).map .dat
    | none => none)
  | _, _ => none
theorem atI_dds {K : PySem.W.Frag} {mg : Str → Option Value} {F : Hp} {ds : List D} {xs : List V} {i : Int} {d : D} (h : DDs K mg F ds xs) (e : atI ds i = some d) : ∃ v, atI xs i = some v ∧ DD K mg F d v := by
  unfold atI at e ⊢
  rw [← h.length]
  cases q : ixN ds.length i with
  | none => rw [q] at e; cases e
  | some j =>
    rw [q] at e
    exact h.get e
def rIxDic : R2 := fun x y H Q => ∃ a v, x = .ref a ∧ DGet H a y (some v) ∧ Q v H
theorem ix_dic {X : Cx} (hu : X.A.units + 1 < cLine) : IxR X rIxDic := by
  rintro value slice pins s σ H x y v u Q I rx ry ⟨a, z, rfl, g, q⟩ hs
  cases rx
  exact PyProof.Rows.tail_any (dict_typeIs I g) PySem.F.slot_dict_getitem.lookup (d_getItem hu I g ry fun w' s3 I3 rw' => ⟨z, H, I3, rw', q⟩) hs
def rIxU (K : PySem.W.Frag) : R2 := fun x y H Q => rIxL K x y H Q ∨ rIxT K x y H Q ∨ rIxS x y H Q ∨ rIxDic x y H Q
theorem o_ix {X : Cx} (hu : X.A.units + 1 < cLine) : IxR X (rIxU X.K) := ix_list.or (ix_tup.or (ix_str.or (ix_dic hu)))
theorem m_ix {G : Cfg} : OpM2 G (rIxU G.K) ixD := by
  intro F H σ ls vs ks v w x y k Q R h1 h2 e q
  cases x with
  | lst ds =>
    cases y <;> first | (simp only [ixD] at e; cases e; done) | skip
    simp only [ixD] at e
    cases e1 : atI ds _ with
    | none => rw [e1] at e; cases e
    | some d =>
      rw [e1] at e; cases e
      obtain ⟨a, xs, rfl, e2, d1⟩ := Vw.lst R.ex h1
      obtain ⟨z, e3, d2⟩ := atI_dds d1 e1
      exact .inl ⟨a, xs, _, z, rfl, Vw.int R.ex h2, SqL.of e2, e3, q _ _ _ (R.pushDat d2)⟩
  | tup ds =>
    cases y <;> first | (simp only [ixD] at e; cases e; done) | skip
    simp only [ixD] at e
    cases e1 : atI ds _ with
    | none => rw [e1] at e; cases e
    | some d =>
      rw [e1] at e; cases e
      obtain ⟨a, xs, rfl, e2, d1⟩ := Vw.tup R.ex h1
      obtain ⟨z, e3, d2⟩ := atI_dds d1 e1
      exact .inr (.inl ⟨a, xs, _, z, rfl, Vw.int R.ex h2, SqT.of e2, e3, q _ _ _ (R.pushDat d2)⟩)
  | scr ns =>
    cases y <;> first | (simp only [ixD] at e; cases e; done) | skip
    simp only [ixD] at e
    cases e1 : atI ns _ with
    | none => rw [e1] at e; cases e
    | some d =>
      rw [e1] at e; cases e
      obtain ⟨a, rfl, e2⟩ := Vw.scr R.ex h1
      refine .inl ⟨a, _, _, .int d, rfl, Vw.int R.ex h2, e2, ?_, q _ _ _ (R.pushDat (.int d))⟩
      unfold atI at e1 ⊢
      rw [List.length_map]
      cases q : ixN ns.length _ with
      | none => rw [q] at e1; cases e1
      | some j =>
        rw [q] at e1
        show (ns.map V.int)[j]? = _
        rw [List.getElem?_map, show ns[j]? = some d from e1]
        rfl
  | str s =>
    cases y <;> first | (simp only [ixD] at e; cases e; done) | skip
    simp only [ixD] at e
    split at e
    · rename_i c
      cases e1 : atI s.cps.toList _ with
      | none => rw [e1] at e; cases e
      | some d =>
        rw [e1] at e; cases e
        exact .inr (.inr (.inl ⟨s, _, d, Vw.str R.ex h1, Vw.int R.ex h2, line_of c, e1, q _ _ _ (R.pushDat (.str _))⟩))
    · cases e
  | dK es =>
    cases e1 : keyK y with
    | none => simp only [ixD, e1] at e; cases e
    | some k =>
      simp only [ixD, e1] at e
      cases e2 : getG es k with
      | none => rw [e2] at e; cases e
      | some r =>
        rw [e2] at e; cases e
        obtain ⟨a, o, rfl, g, _, q2⟩ := dget_k R.ex h2 e1 h1
        obtain ⟨z, rfl, d1⟩ := q2 r e2
        exact .inr (.inr (.inr ⟨a, z, rfl, g, q _ _ _ (R.pushDat d1)⟩))
  | dT es =>
    cases e1 : keyT y with
    | none => simp only [ixD, e1] at e; cases e
    | some k =>
      simp only [ixD, e1] at e
      cases e2 : getG es k with
      | none => rw [e2] at e; cases e
      | some r =>
        rw [e2] at e; cases e
        obtain ⟨a, o, rfl, g, _, q2⟩ := dget_t R.ex h2 e1 h1
        obtain ⟨z, rfl, d1⟩ := q2 r e2
        exact .inr (.inr (.inr ⟨a, z, rfl, g, q _ _ _ (R.pushDat d1)⟩))
  | non => cases e
  | bl _ => cases e
  | int _ => cases e
  | ins _ _ => cases e
  | ktup _ => cases e
  | exc _ _ => cases e
inductive RF where
  | ok (k : Slot) (ps : List Slot) | err (x : Exn) (ps : List Slot) | stk
def PostF (G : Cfg) (vs : List V) (r : RF) (Q : VK) (E : XK) : Prop := match r with
  | .ok k ps' => ∀ v F' H', Rp G F' H' [] [] (v :: vs) (k :: ps') → Q v H'
  | .err x ps' => ∀ cls d F' H', Rp G F' H' [] [] vs ps' → ErrRel G F' cls d x → E cls d H'
  | .stk => False
def spM (K : PySem.W.Frag) (mg : Str → Option Value) (n : Nat) (f : List Slot → RF) : Sp := fun vs H Q E => vs.length = n ∧ ∃ F W ps, noAli ps ∧ Rp ⟨K, mg, ⟨F, H, W, noP⟩⟩ F H [] [] vs ps ∧ PostF ⟨K, mg, ⟨F, H, W, noP⟩⟩ vs (f ps) Q E
inductive HandRel (ls : LS) : Slot → Slot → Prop
  | dat (d : D) : HandRel ls (.dat d) (.dat d)
  | own (d : D) : HandRel ls (.own d) (.par d)
  | aown {i : Nat} {d : D} : ls[i]? = some (.own d) → HandRel ls (.ali i) (.par d)
  | apar {i : Nat} {d : D} : ls[i]? = some (.par d) → HandRel ls (.ali i) (.par d)
  | adat {i : Nat} {d : D} : ls[i]? = some (.dat d) → HandRel ls (.ali i) (.dat d)
  | apdt {i : Nat} {d : D} : ls[i]? = some (.pdt d) → HandRel ls (.ali i) (.dat d)
def hand1 (ls : LS) : Slot → Option Slot
  | .dat d => some (.dat d)
  | .own d => some (.par d)
  | .ali i => (match ls[i]? with
    | some (.own d) => some (.par d)
    | some (.par d) => some (.par d)
    | some (.dat d) => some (.dat d)
    | some (.pdt d) => some (.dat d)
    | _ => none)
  | _ => none
theorem hand1_rel {ls : LS} {k p : Slot} (h : hand1 ls k = some p) : HandRel ls k p := by
  cases k with
  | dat d => cases h; exact .dat d
  | own d => cases h; exact .own d
  | ali i =>
    cases e : ls[i]? with
    | none => simp only [hand1, e] at h; cases h
    | some s => cases s <;> (simp only [hand1, e] at h; first | (cases h; done) | (cases h; first | exact .aown e | exact .apar e | exact .adat e | exact .apdt e))
  | emp => cases h
  | pdt _ => cases h
  | par _ => cases h
  | tre _ => cases h
  | ptr _ => cases h
def hands (ls : LS) : List Slot → Option (List Slot)
  | [] => some []
  | k :: as => match hand1 ls k, hands ls as with
    | some p, some ps => some (p :: ps)
    | _, _ => none
theorem hands_get {ls : LS} : ∀ {as ps : List Slot}, hands ls as = some ps → as.length = ps.length ∧ ∀ (j : Nat) p, ps[j]? = some p → ∃ k, as[j]? = some k ∧ HandRel ls k p
  | [], ps, h => by cases h; exact ⟨rfl, fun j p e => by simp at e⟩
  | k :: as, ps, h => by
    cases e : hand1 ls k with
    | none => simp only [hands, e] at h; cases h
    | some p0 =>
      cases e2 : hands ls as with
      | none => simp only [hands, e, e2] at h; cases h
      | some ps0 =>
        simp only [hands, e, e2] at h
        cases h
        obtain ⟨h1, h2⟩ := hands_get e2
        refine ⟨by simp [h1], fun j p ej => ?_⟩
        cases j with
        | zero => rw [List.getElem?_cons_zero] at ej; cases ej; exact ⟨k, rfl, hand1_rel e⟩
        | succ j =>
          rw [List.getElem?_cons_succ] at ej
          obtain ⟨k', a, b⟩ := h2 j p ej
          exact ⟨k', by rw [List.getElem?_cons_succ]; exact a, b⟩
def alis : List Slot → List Nat
  | [] => []
  | .ali i :: r => i :: alis r
  | _ :: r => alis r
theorem mem_alis {i : Nat} {as : List Slot} : Slot.ali i ∈ as ↔ i ∈ alis as := by
  induction as with
  | nil => simp [alis]
  | cons k as ih => cases k <;> simp [alis, ih]
theorem alis_inj : ∀ {as : List Slot}, (alis as).Nodup → ∀ {j j' i : Nat}, as[j]? = some (.ali i) → as[j']? = some (.ali i) → j = j'
  | [], _, j, _, _, h, _ => by simp at h
  | k :: as, hn, j, j', i, h, h' => by
    have key : ∀ {m : Nat}, as[m]? = some (.ali i) → i ∈ alis as := fun e => mem_alis.mp (List.mem_of_getElem? e)
    cases j with
    | zero =>
      rw [List.getElem?_cons_zero] at h; cases h
      cases j' with
      | zero => rfl
      | succ m =>
        rw [List.getElem?_cons_succ] at h'
        exact absurd (key h') (List.nodup_cons.mp hn).1
    | succ m =>
      rw [List.getElem?_cons_succ] at h
      cases j' with
      | zero =>
        rw [List.getElem?_cons_zero] at h'; cases h'
        exact absurd (key h) (List.nodup_cons.mp hn).1
      | succ m' =>
        rw [List.getElem?_cons_succ] at h'
        have hn' : (alis as).Nodup := by
          cases k with
          | ali _ => exact (List.nodup_cons.mp hn).2
          | _ => exact hn
        rw [alis_inj hn' h h']
inductive BackRel : Slot → Slot → Slot → Prop
  | oo (d0 d : D) : BackRel (.own d0) (.par d) (.own d)
  | od (d0 d : D) : BackRel (.own d0) (.dat d) (.dat d)
  | pp (d0 d : D) : BackRel (.par d0) (.par d) (.par d)
  | pd (d0 d : D) : BackRel (.par d0) (.dat d) (.pdt d)
def back1 (s p : Slot) : Option (Option Slot) := match s, p with
  | .own _, .par d => some (some (.own d))
  | .own _, .dat d => some (some (.dat d))
  | .par _, .par d => some (some (.par d))
  | .par _, .dat d => some (some (.pdt d))
  | .dat _, .dat _ => some none
  | .pdt _, .dat _ => some none
  | _, _ => none
def backs : List Slot → List Slot → LS → Option LS
  | [], [], ls => some ls
  | .ali i :: as, p :: ps, ls => (match ls[i]? with
    | some s => (match back1 s p with
      | some (some s') => backs as ps (ls.set i s')
      | some none => backs as ps ls
      | none => none)
    | none => none)
  | .dat _ :: as, .dat _ :: ps, ls => backs as ps ls
  | .own _ :: as, .dat _ :: ps, ls => backs as ps ls
  | .own _ :: as, .par _ :: ps, ls => backs as ps ls
  | _, _, _ => none
theorem backs_get : ∀ {as ps : List Slot} {ls ls' : LS}, (alis as).Nodup → backs as ps ls = some ls' → ls'.length = ls.length ∧ ∀ i : Nat,
    (ls'[i]? = ls[i]? ∧ (Slot.ali i ∈ as → ∃ d, ls[i]? = some (.dat d) ∨ ls[i]? = some (.pdt d))) ∨
    ∃ (j : Nat) (p s s' : Slot), as[j]? = some (.ali i) ∧ ps[j]? = some p ∧ ls[i]? = some s ∧ ls'[i]? = some s' ∧ BackRel s p s'
  | [], [], ls, ls', _, h => by cases h; exact ⟨rfl, fun i => .inl ⟨rfl, fun z => by simp at z⟩⟩
  | [], _ :: _, _, _, _, h => by cases h
  | k :: as, [], _, _, _, h => by cases k <;> cases h
  | k :: as, p :: ps, ls, ls', hn, h => by
    have lift : ∀ {ls1 : LS}, (alis as).Nodup → backs as ps ls1 = some ls' → (∀ i, k ≠ .ali i) → ls1 = ls → ls'.length = ls.length ∧ ∀ i : Nat,
        (ls'[i]? = ls[i]? ∧ (Slot.ali i ∈ k :: as → ∃ d, ls[i]? = some (.dat d) ∨ ls[i]? = some (.pdt d))) ∨
        ∃ (j : Nat) (p' s s' : Slot), (k :: as)[j]? = some (.ali i) ∧ (p :: ps)[j]? = some p' ∧ ls[i]? = some s ∧ ls'[i]? = some s' ∧ BackRel s p' s' := fun {ls1} hn' h' hk e => by
      subst e
      obtain ⟨a, b⟩ := backs_get hn' h'
      refine ⟨a, fun i => ?_⟩
      rcases b i with ⟨b1, b2⟩ | ⟨j, p', s, s', c1, c2, c3, c4, c5⟩
      · refine .inl ⟨b1, fun z => ?_⟩
        rcases List.mem_cons.mp z with z | z
        · exact absurd z.symm (hk i)
        · exact b2 z
      · exact .inr ⟨j + 1, p', s, s', by rw [List.getElem?_cons_succ]; exact c1, by rw [List.getElem?_cons_succ]; exact c2, c3, c4, c5⟩
    cases k with
    | ali i0 =>
      have hn1 := List.nodup_cons.mp hn
      cases e : ls[i0]? with
      | none => simp only [backs, e] at h; cases h
      | some s0 =>
        cases e1 : back1 s0 p with
        | none => simp only [backs, e, e1] at h; cases h
        | some q =>
          cases q with
          | none =>
            simp only [backs, e, e1] at h
            obtain ⟨a, b⟩ := backs_get hn1.2 h
            have hs : ∃ d, ls[i0]? = some (.dat d) ∨ ls[i0]? = some (.pdt d) := by
              cases s0 <;> cases p <;> first | (cases e1; done) | exact ⟨_, .inl e⟩ | exact ⟨_, .inr e⟩
            refine ⟨a, fun i => ?_⟩
            rcases b i with ⟨b1, b2⟩ | ⟨j, p', s, s', c1, c2, c3, c4, c5⟩
            · refine .inl ⟨b1, fun z => ?_⟩
              rcases List.mem_cons.mp z with z | z
              · cases z; exact hs
              · exact b2 z
            · exact .inr ⟨j + 1, p', s, s', by rw [List.getElem?_cons_succ]; exact c1, by rw [List.getElem?_cons_succ]; exact c2, c3, c4, c5⟩
          | some s1 =>
            simp only [backs, e, e1] at h
            obtain ⟨a, b⟩ := backs_get hn1.2 h
            have hl := (List.getElem?_eq_some_iff.mp e).1
            have br : BackRel s0 p s1 := by
              cases s0 <;> cases p <;> first | (cases e1; done) | (cases e1; first | exact .oo _ _ | exact .od _ _ | exact .pp _ _ | exact .pd _ _)
            refine ⟨by rw [a, List.length_set], fun i => ?_⟩
            by_cases hi : i = i0
            · subst hi
              rcases b i with ⟨b1, _⟩ | ⟨j, p', s, s', c1, _⟩
              · rw [List.getElem?_set_self hl] at b1
                exact .inr ⟨0, p, s0, s1, rfl, rfl, e, b1, br⟩
              · exact absurd (mem_alis.mp (List.mem_of_getElem? c1)) hn1.1
            · have hne : (ls.set i0 s1)[i]? = ls[i]? := List.getElem?_set_ne (Ne.symm hi)
              rcases b i with ⟨b1, b2⟩ | ⟨j, p', s, s', c1, c2, c3, c4, c5⟩
              · refine .inl ⟨by rw [b1, hne], fun z => ?_⟩
                rcases List.mem_cons.mp z with z | z
                · cases z; exact absurd rfl hi
                · rw [hne] at b2; exact b2 z
              · exact .inr ⟨j + 1, p', s, s', by rw [List.getElem?_cons_succ]; exact c1, by rw [List.getElem?_cons_succ]; exact c2, by rw [hne] at c3; exact c3, c4, c5⟩
    | dat d => cases p <;> first | (cases h; done) | exact lift hn h (fun i z => by cases z) rfl
    | own d => cases p <;> first | (cases h; done) | exact lift hn h (fun i z => by cases z) rfl
    | tre _ => cases h
    | ptr _ => cases h
    | emp => cases h
    | pdt _ => cases h
    | par _ => cases h
section
variable {G : Cfg} {F F' H H' : Hp} {σ : L2.St} {ls ls' : LS} {vs ws : List V} {ks as ps ps' : List Slot} {v : V} {k : Slot} {d : D} {p : Addr}
def argW (H : Hp) (ws : List V) (ps : List Slot) : Addr → Prop := fun b => ∃ (j : Nat) (e : Ent), (ent ws ps [] [])[j]? = some e ∧ b ∈ adE H e
theorem EnOk.reP {K : PySem.W.Frag} {mg : Str → Option Value} {F H F0 H0 : Hp} {Wp : Addr → Prop} {P P' : Nat → Option (Option V)} {e : Ent} (h : EnOk ⟨K, mg, ⟨F0, H0, Wp, P⟩⟩ F H e) : EnOk ⟨K, mg, ⟨F0, H0, Wp, P'⟩⟩ F H e :=
  (h.move (B' := ⟨F0, H0, Wp, P'⟩) Ex.rfl Tu.rfl fun q hq => by obtain ⟨v, k⟩ := e; exact ⟨(h.own_at hq).1, rfl, (h.own_at hq).2.1⟩).1
theorem ad_one {v : Option V} {c : D → Slot} {d : D} {p : Addr} {H : Hp} (hc : c = Slot.own ∨ c = Slot.par) (h : v = some (.ref p)) : p ∈ adE H (v, c d) := by
  subst h; rcases hc with rfl | rfl <;> exact List.mem_singleton.mpr rfl
theorem one_ad {v : V} {c : D → Slot} {d : D} {p : Addr} {H : Hp} (hc : c = Slot.own ∨ c = Slot.par) (h : p ∈ adE H (some v, c d)) : v = .ref p := by
  have h : p ∈ refA (some v) := by rcases hc with rfl | rfl <;> exact h
  cases v <;> first | (cases List.mem_singleton.mp h; rfl) | cases h
theorem ent_stk {j : Nat} {w : V} {q : Slot} (h1 : ws[j]? = some w) (h2 : ps[j]? = some q) (σ : L2.St) (ls : LS) (h : ws.length = ps.length) : (ent ws ps σ ls)[j]? = some (some w, q) := by
  unfold ent
  rw [List.getElem?_append_left (by simp [h]; exact (List.getElem?_eq_some_iff.mp h2).1), List.getElem?_zip_eq_some]
  exact ⟨by rw [List.getElem?_map, h1]; rfl, h2⟩
theorem ent_nil {j : Nat} {e : Ent} (h : (ent ws ps [] [])[j]? = some e) : ∃ w q, ws[j]? = some w ∧ ps[j]? = some q ∧ e = (some w, q) := by
  unfold ent at h
  rw [List.zip_nil_left, List.append_nil] at h
  obtain ⟨v, q⟩ := e
  rw [List.getElem?_zip_eq_some] at h
  obtain ⟨h1, h2⟩ := h
  rw [List.getElem?_map] at h1
  cases e : ws[j]? with
  | none => rw [e] at h1; cases h1
  | some w => rw [e] at h1; cases h1; exact ⟨w, q, rfl, h2, rfl⟩
theorem arg_src (R : Rp G F H σ ls (ws ++ vs) (as ++ ks)) (hl : ws.length = as.length) {j : Nat} {w : V} {a q : Slot} (h1 : ws[j]? = some w) (h2 : as[j]? = some a) (hr : HandRel ls a q) :
    (∃ d, q = .dat d ∧ DD G.K G.mg F d w) ∨ ∃ (d : D) (p : Addr) (n : Nat) (e : Ent), q = .par d ∧ w = .ref p ∧ OwnAt G F H p d ∧ (ent (ws ++ vs) (as ++ ks) σ ls)[n]? = some e ∧ p ∈ adE H e ∧ ((n = j ∧ ∃ d, a = .own d) ∨ ∃ i, a = .ali i ∧ n = (ws ++ vs).length + i) := by
  have kl := R.klen
  have e0 : (ent (ws ++ vs) (as ++ ks) σ ls)[j]? = some (some w, a) := by
    refine ent_stk ?_ ?_ σ ls kl
    · rw [List.getElem?_append_left (List.getElem?_eq_some_iff.mp h1).1]; exact h1
    · rw [List.getElem?_append_left (List.getElem?_eq_some_iff.mp h2).1]; exact h2
  have ok := R.good.all j _ e0
  have hz : (w, a) ∈ (ws ++ vs).zip (as ++ ks) := by
    refine List.mem_of_getElem? (i := j) ?_
    rw [List.getElem?_zip_eq_some]
    exact ⟨by rw [List.getElem?_append_left (List.getElem?_eq_some_iff.mp h1).1]; exact h1, by rw [List.getElem?_append_left (List.getElem?_eq_some_iff.mp h2).1]; exact h2⟩
  have locE : ∀ {i : Nat} {s : Slot} {u : Option V}, σ[i]? = some u → ls[i]? = some s → (ent (ws ++ vs) (as ++ ks) σ ls)[(ws ++ vs).length + i]? = some (u, s) := fun h h' => by rw [ent_loc kl]; exact zip_at h h'
  cases hr with
  | dat d => obtain ⟨x, e, q⟩ := ok; cases e; exact .inl ⟨d, rfl, q⟩
  | own d =>
    obtain ⟨p, e, o⟩ := ok
    cases e
    exact .inr ⟨d, p, j, _, rfl, rfl, o, e0, ad_one (.inl rfl) rfl, .inl ⟨rfl, d, rfl⟩⟩
  | aown h =>
    rename_i i d
    obtain ⟨s, b1, b2, b3⟩ := R.al w i hz
    rw [h] at b2; cases b2
    have e1 := locE b1 h
    obtain ⟨p, e, o⟩ := R.good.all _ _ e1
    cases e
    exact .inr ⟨d, p, _, _, rfl, rfl, o, e1, ad_one (.inl rfl) rfl, .inr ⟨i, rfl, rfl⟩⟩
  | apar h =>
    rename_i i d
    obtain ⟨s, b1, b2, b3⟩ := R.al w i hz
    rw [h] at b2; cases b2
    have e1 := locE b1 h
    obtain ⟨p, e, o⟩ := R.good.all _ _ e1
    cases e
    exact .inr ⟨d, p, _, _, rfl, rfl, o, e1, ad_one (.inr rfl) rfl, .inr ⟨i, rfl, rfl⟩⟩
  | adat h =>
    rename_i i d
    obtain ⟨s, b1, b2, b3⟩ := R.al w i hz
    obtain ⟨x, e, q⟩ := R.good.all _ _ (locE b1 h)
    cases e
    exact .inl ⟨d, rfl, q⟩
  | apdt h =>
    rename_i i d
    obtain ⟨s, b1, b2, b3⟩ := R.al w i hz
    obtain ⟨x, e, q⟩ := R.good.all _ _ (locE b1 h)
    cases e
    exact .inl ⟨d, rfl, q⟩
theorem HandRel.kind {a q : Slot} (h : HandRel ls a q) : (∃ d, q = .dat d) ∨ ∃ d, q = .par d := by
  cases h <;> first | exact .inl ⟨_, rfl⟩ | exact .inr ⟨_, rfl⟩
theorem argW_src (R : Rp G F H σ ls (ws ++ vs) (as ++ ks)) (hl : ws.length = as.length) (hh : hands ls as = some ps) {b : Addr} {j : Nat} {e : Ent} (he : (ent ws ps [] [])[j]? = some e) (ho : b ∈ adE H e) :
    ∃ (d : D) (w : V) (a : Slot) (n : Nat) (e' : Ent), ws[j]? = some w ∧ as[j]? = some a ∧ ps[j]? = some (.par d) ∧ w = .ref b ∧ OwnAt G F H b d ∧ (ent (ws ++ vs) (as ++ ks) σ ls)[n]? = some e' ∧ b ∈ adE H e' ∧ ((n = j ∧ ∃ d, a = .own d) ∨ ∃ i, a = .ali i ∧ n = (ws ++ vs).length + i) := by
  obtain ⟨w, q, h1, h2, rfl⟩ := ent_nil he
  obtain ⟨a, h3, h4⟩ := (hands_get hh).2 j q h2
  rcases arg_src R hl h1 h3 h4 with ⟨d, rfl, _⟩ | ⟨d, p, n, e', rfl, rfl, o, e1, e2, e3⟩
  · cases ho
  · have z := one_ad (.inr rfl) ho
    cases z
    exact ⟨d, _, a, n, e', h1, h3, h2, rfl, o, e1, e2, e3⟩
theorem call_pre (R : Rp G F H σ ls (ws ++ vs) (as ++ ks)) (hl : ws.length = as.length) (hn : (alis as).Nodup) (hh : hands ls as = some ps) :
    noAli ps ∧ Rp ⟨G.K, G.mg, ⟨F, H, argW H ws ps, noP⟩⟩ F H [] [] ws ps := by
  obtain ⟨hl2, hget⟩ := hands_get hh
  have na : noAli ps := fun i hm => by
    obtain ⟨j, hj⟩ := List.getElem?_of_mem hm
    obtain ⟨a, _, hr⟩ := hget j _ hj
    rcases hr.kind with ⟨d, z⟩ | ⟨d, z⟩ <;> cases z
  refine ⟨na, R.ex, Ex.rfl, rfl, by rw [hl, hl2], ⟨fun j e he => ?_, fun m n e e' p h1 h2 o1 o2 => ?_⟩, fun w i hm => absurd hm na.zip, fun i d hd => by rcases hd with z | z | z | ⟨t, z⟩ <;> simp at z, fun b o e => .inr e, fun b z => z, fun b z => .inr (.inl z)⟩
  · obtain ⟨w, q, h1, h2, rfl⟩ := ent_nil he
    obtain ⟨a, h3, h4⟩ := hget j q h2
    rcases arg_src R hl h1 h3 h4 with ⟨d, rfl, dd⟩ | ⟨d, p, n, e', rfl, rfl, o, e1, e2, e3⟩
    · exact ⟨w, rfl, dd⟩
    · exact ⟨p, rfl, o.1, .inr ⟨j, _, he, ad_one (.inr rfl) rfl⟩, o.2.2⟩
  · obtain ⟨d1, w1, a1, n1, c1, x1, y1, _, z1, _, u1, t1, s1⟩ := argW_src R hl hh h1 o1
    obtain ⟨d2, w2, a2, n2, c2, x2, y2, _, z2, _, u2, t2, s2⟩ := argW_src R hl hh h2 o2
    have en := R.good.nd n1 n2 c1 c2 p u1 u2 t1 t2
    have b1 := (List.getElem?_eq_some_iff.mp x1).1
    have b2 := (List.getElem?_eq_some_iff.mp x2).1
    rcases s1 with ⟨r1, _⟩ | ⟨i1, r1, r1'⟩ <;> rcases s2 with ⟨r2, _⟩ | ⟨i2, r2, r2'⟩
    · omega
    · simp at r2'; omega
    · simp at r1'; omega
    · have : i1 = i2 := by omega
      subst this
      subst r1 r2
      exact alis_inj hn y1 y2
theorem Rp.pushOwnAt (R : Rp G F H σ ls vs ks) (ho : OwnAt G F H p d) (hd : ∀ (n : Nat) (e : Ent), (ent vs ks σ ls)[n]? = some e → p ∉ adE H e) : Rp G F H σ ls (.ref p :: vs) (.own d :: ks) :=
  ⟨R.ex, R.ex0, R.len, by simp [R.klen], R.good.cons (e := (some (.ref p), .own d)) ⟨p, rfl, ho⟩ (fun q hq n e' he z => hd n e' he (by cases one_ad (.inl rfl) hq; exact z)), fun w i' hj => by
    rcases List.mem_cons.mp hj with z | z
    · cases z
    · exact R.al w i' z, R.pin, R.b1, R.b2, R.b3⟩
theorem call_post (R : Rp G F H σ ls (ws ++ vs) (as ++ ks)) (hl : ws.length = as.length) (hn : (alis as).Nodup) (hh : hands ls as = some ps) (hb : backs as ps' ls = some ls')
    (C : Rp ⟨G.K, G.mg, ⟨F, H, argW H ws ps, noP⟩⟩ F' H' [] [] ws ps') : Rp G F' H' σ ls' vs ks ∧ ∀ (n : Nat) (e : Ent) (q : Addr), (ent vs ks σ ls')[n]? = some e → q ∈ adE H' e →
      (¬ argW H ws ps q ∧ H q ≠ none) ∨ ∃ (m i : Nat) (e' : Ent), as[m]? = some (.ali i) ∧ (ent ws ps' [] [])[m]? = some e' ∧ q ∈ adE H' e' := by
  obtain ⟨hlen, hback⟩ := backs_get hn hb
  obtain ⟨hl2, hget⟩ := hands_get hh
  have kl := R.klen
  have kl2 : vs.length = ks.length := by simp at kl; omega
  have R0 : Rp G F H σ ls vs ks := Rp.popN as ws hl R
  -- where the caller's entries stand in the whole
  have up : ∀ (n : Nat) (e : Ent), (ent vs ks σ ls)[n]? = some e → (ent (ws ++ vs) (as ++ ks) σ ls)[ws.length + n]? = some e := fun n e he => by
    have : ent (ws ++ vs) (as ++ ks) σ ls = (ws.map some).zip as ++ ent vs ks σ ls := by
      unfold ent
      rw [List.map_append, List.zip_append (by simp [hl]), List.append_assoc]
    rw [this, List.getElem?_append_right (by simp [hl])]
    simpa [hl] using he
  -- an argument's object is ours
  have wOwn : ∀ b, argW H ws ps b → (G.B.H b = none ∨ G.B.W b) := fun b ⟨j, e, he, ho⟩ => by
    obtain ⟨d, w, a, n, e', _, _, _, _, o, _⟩ := argW_src R hl hh he ho
    exact o.2.1
  -- an entry that was no argument: its object stands as it stood
  have stay : ∀ (n : Nat) (e : Ent) (q : Addr), (ent vs ks σ ls)[n]? = some e → q ∈ adE H e → (∀ i, n = vs.length + i → Slot.ali i ∉ as) → ¬ argW H ws ps q ∧ F' q = none ∧ H' q = H q ∧ H q ≠ none := fun n e q he ho hna => by
    have nw : ¬ argW H ws ps q := fun ⟨j, e1, h1, h2⟩ => by
      obtain ⟨d, w, a, m, e', x1, x2, _, _, _, u1, u2, s1⟩ := argW_src R hl hh h1 h2
      have en := R.good.nd m (ws.length + n) e' e q u1 (up n e he) u2 ho
      have bj := (List.getElem?_eq_some_iff.mp x1).1
      rcases s1 with ⟨r1, _⟩ | ⟨i, r1, r2⟩
      · omega
      · subst r1
        exact hna i (by simp at r2; omega) (List.mem_of_getElem? x2)
    obtain ⟨f1, o, f2⟩ := R0.good.owned he ho
    refine ⟨nw, ?_, ?_, by rw [f2]; exact Option.some_ne_none _⟩
    · cases z : F' q with
      | none => rfl
      | some u =>
        rcases C.b3 q (by rw [z]; exact Option.some_ne_none _) with ⟨xs, z1⟩ | z1 | z1 | z1
        · rcases C.b1 q o f2 with y | y
          · exact absurd y nw
          · have y2 := C.ex _ _ z1
            rw [y] at y2
            cases y2
            obtain ⟨_, _, o', g1, g2⟩ := R0.good.one he ho
            rw [f2] at g1; cases g1
            exact g2.elim
        · exact absurd f1 z1
        · rw [show H q = none from z1] at f2; cases f2
        · exact absurd z1 nw
    · rcases C.b1 q o f2 with z | z
      · exact absurd z nw
      · rw [z, f2]
  -- each entry now: as it was, or an argument's
  have now : ∀ (n : Nat) (e : Ent), (ent vs ks σ ls')[n]? = some e →
      ((ent vs ks σ ls)[n]? = some e ∧ (∀ q, q ∈ adE H e → ∀ i, n = vs.length + i → Slot.ali i ∉ as)) ∨
      ∃ (i j : Nat) (w : V) (p' s s' : Slot), n = vs.length + i ∧ as[j]? = some (.ali i) ∧ ws[j]? = some w ∧ ps'[j]? = some p' ∧ ls[i]? = some s ∧ BackRel s p' s' ∧ σ[i]? = some (some w) ∧ e = (some w, s') := fun n e he => by
    by_cases hnv : n < vs.length
    · have e1 : (ent vs ks σ ls)[n]? = some e := by
        unfold ent at he ⊢
        rw [List.getElem?_append_left (by simp [kl2]; omega)] at he ⊢
        exact he
      exact .inl ⟨e1, fun _ _ i hi => by omega⟩
    · obtain ⟨i, rfl⟩ : ∃ i, n = vs.length + i := ⟨n - vs.length, by omega⟩
      rw [ent_loc kl2] at he
      obtain ⟨u, s'⟩ := e
      rw [List.getElem?_zip_eq_some] at he
      obtain ⟨h1, h2⟩ := he
      rcases hback i with ⟨b1, b2⟩ | ⟨j, p', s, s1, c1, c2, c3, c4, c5⟩
      · refine .inl ⟨by rw [ent_loc kl2]; exact zip_at h1 (by rw [← b1]; exact h2), fun q hq i' hi' hm => ?_⟩
        have : i' = i := by omega
        subst this
        obtain ⟨d, z | z⟩ := b2 hm
        · rw [b1, z] at h2; cases h2; cases hq
        · rw [b1, z] at h2; cases h2; cases hq
      · rw [c4] at h2; cases h2
        have bj := (List.getElem?_eq_some_iff.mp c1).1
        have hw : ws[j]? = some (ws[j]'(by omega)) := List.getElem?_eq_getElem _
        obtain ⟨s2, a1, a2, a3⟩ := R.al (ws[j]'(by omega)) i (List.mem_of_getElem? (i := j) (by
          rw [List.getElem?_zip_eq_some, List.getElem?_append_left (by omega), List.getElem?_append_left (by omega)]
          exact ⟨hw, c1⟩))
        rw [h1] at a1
        cases a1
        exact .inr ⟨i, j, _, p', s, s', rfl, c1, hw, c2, c3, c5, h1, rfl⟩
  have backOwn : ∀ {s p' s' : Slot} {w : V} {q : Addr}, BackRel s p' s' → q ∈ adE H' (some w, s') → q ∈ adE H' (some w, p') := fun {s p' s' w q} b h => by
    cases b with
    | oo => exact h
    | od => cases h
    | pp => exact h
    | pd => cases h
  have adSame : ∀ (n : Nat) (e : Ent), (ent vs ks σ ls)[n]? = some e → (∀ q, q ∈ adE H e → ∀ i, n = vs.length + i → Slot.ali i ∉ as) → EnOk G F' H' e ∧ adE H' e = adE H e := fun n e h1 h2 =>
    (R0.good.all n e h1).grow C.ex0 C.ex.tu fun q hq => by
        obtain ⟨_, b, c, _⟩ := stay n e q h1 hq (h2 q hq)
        exact ⟨b, c⟩
  have kinds : ∀ (n : Nat) (e : Ent) (q : Addr), (ent vs ks σ ls')[n]? = some e → q ∈ adE H' e →
      (¬ argW H ws ps q ∧ H q ≠ none ∧ (ent vs ks σ ls)[n]? = some e ∧ q ∈ adE H e) ∨ ∃ (i j : Nat), n = vs.length + i ∧ as[j]? = some (.ali i) ∧ ∃ e', (ent ws ps' [] [])[j]? = some e' ∧ q ∈ adE H' e' := fun n e q he ho => by
    rcases now n e he with ⟨h1, h2⟩ | ⟨i, j, w, p', s, s', rfl, c1, c2, c3, c4, c5, c6, rfl⟩
    · rw [(adSame n e h1 h2).2] at ho
      obtain ⟨a, b, c, d⟩ := stay n e q h1 ho (h2 q ho)
      exact .inl ⟨a, d, h1, ho⟩
    · exact .inr ⟨i, j, rfl, c1, _, ent_stk c2 c3 [] [] C.klen, backOwn c5 ho⟩
  refine ⟨⟨C.ex, R.ex0.trans C.ex0, by rw [R.len, hlen], kl2, ⟨fun n e he => ?_, fun m n e e' q h1 h2 o1 o2 => ?_⟩, fun w i hm => ?_, fun i d hd => ?_, fun b o e => ?_, fun b z => C.b2 b (R.b2 b z), fun b z => ?_⟩, fun n e q he ho => ?_⟩
  · rcases now n e he with ⟨h1, h2⟩ | ⟨i, j, w, p', s, s', rfl, c1, c2, c3, c4, c5, c6, rfl⟩
    · exact (adSame n e h1 h2).1
    · have ok := C.good.all j _ (ent_stk c2 c3 [] [] C.klen)
      have own : ∀ {d0 d1 : D} {p : Addr}, (s = .own d0 ∨ s = .par d0) → w = .ref p → OwnAt ⟨G.K, G.mg, ⟨F, H, argW H ws ps, noP⟩⟩ F' H' p d1 → OwnAt G F' H' p d1 := fun {d0 d1 p} hs hw o => by
        have e0 : (ent vs ks σ ls)[vs.length + i]? = some (some w, s) := by rw [ent_loc kl2]; exact zip_at c6 c4
        have o0 : p ∈ adE H (some w, s) := by subst hw; rcases hs with rfl | rfl <;> exact List.mem_singleton.mpr rfl
        obtain ⟨_, c, _⟩ := R0.base e0 o0
        exact ⟨o.1, c, o.2.2⟩
      cases c5 with
      | oo d0 d1 => obtain ⟨p, e, o⟩ := ok; cases e; exact ⟨p, rfl, own (.inl rfl) rfl o⟩
      | od d0 d1 => obtain ⟨x, e, o⟩ := ok; cases e; exact ⟨_, rfl, o⟩
      | pp d0 d1 => obtain ⟨p, e, o⟩ := ok; cases e; exact ⟨p, rfl, own (.inr rfl) rfl o⟩
      | pd d0 d1 => obtain ⟨x, e, o⟩ := ok; cases e; exact ⟨_, rfl, o⟩
  · have argIn : ∀ {j : Nat} {e1 : Ent}, (ent ws ps' [] [])[j]? = some e1 → q ∈ adE H' e1 → (argW H ws ps q ∨ H q = none) := fun {j e1} g1 g2 => by
      obtain ⟨_, z, _⟩ := C.base g1 g2
      rcases z with z | z
      · exact .inr z
      · exact .inl z
    rcases kinds m e q h1 o1 with ⟨a1, a2, a3, a5⟩ | ⟨i1, j1, r1, a2, e1, a3, a4⟩ <;> rcases kinds n e' q h2 o2 with ⟨b1, b2, b3, b5⟩ | ⟨i2, j2, r2, b2, e2, b3, b4⟩
    · exact R0.good.nd m n e e' q a3 b3 a5 b5
    · rcases argIn b3 b4 with z | z
      · exact absurd z a1
      · exact absurd z a2
    · rcases argIn a3 a4 with z | z
      · exact absurd z b1
      · exact absurd z b2
    · have ej := C.good.nd j1 j2 e1 e2 q a3 b3 a4 b4
      subst ej
      rw [a2] at b2
      cases b2
      rw [r1, r2]
  · obtain ⟨s, a1, a2, a3⟩ := R0.al w i hm
    rcases hback i with ⟨b1, _⟩ | ⟨j, p', s1, s', c1, c2, c3, c4, c5⟩
    · exact ⟨s, a1, by rw [b1]; exact a2, a3⟩
    · exact ⟨s', a1, c4, by cases c5 <;> rfl⟩
  · rcases hback i with ⟨b1, _⟩ | ⟨j, p', s1, s', c1, c2, c3, c4, c5⟩
    · rw [b1] at hd; exact R0.pin i d hd
    · rw [c4] at hd
      cases c5 <;> first
        | (rcases hd with z | z | z | ⟨t, z⟩ <;> cases z; done)
        | exact R0.pin i _ (.inl c3)
  · rcases R.b1 b o e with z | z
    · exact .inl z
    · rcases C.b1 b o z with y | y
      · rcases wOwn b y with x | x
        · rw [x] at e; cases e
        · exact .inl x
      · exact .inr y
  · rcases C.b3 b z with y | y | y | y
    · exact .inl y
    · exact (R.b3 b y).imp (fun ⟨xs, q⟩ => ⟨xs, C.ex0 _ _ q⟩) id
    · refine .inr (.inr (.inl ?_))
      cases q : G.B.H b with
      | none => rfl
      | some o => exact absurd y (R.b2 b (by rw [q]; exact Option.some_ne_none _))
    · exact .inr (.inr (wOwn b y))
  · rcases kinds n e q he ho with ⟨a1, a2, _⟩ | ⟨i, j, _, a2, e', a3, a4⟩
    · exact .inl ⟨a1, a2⟩
    · exact .inr ⟨j, i, e', a2, a3, a4⟩
end
def Slot.res : Slot → Bool
  | .dat _ => true
  | .own _ => true
  | _ => false
def callK (f : List Slot → RF) (as : List Slot) (ls : LS) : R := if (alis as).Nodup then (match hands ls as with
  | some ps => (match f ps with
    | .ok k ps' => (match backs as ps' ls with
      | some ls' => if k.res = true then .ok k ls' else .stk
      | none => .stk)
    | .err x ps' => (match backs as ps' ls with
      | some ls' => .err x ls'
      | none => .stk)
    | .stk => .stk)
  | none => .stk) else .stk
def callM (f : List Slot → RF) (am : AM) : M := fun ls => (am ls).bind (callK f)
theorem callK_ok {G : Cfg} {W : WX} {f : List Slot → RF} {F H : Hp} {σ : L2.St} {ls : LS} {vs ws : List V} {ks as : List Slot} {Q : VK} (hl : ws.length = as.length) (R : Rp G F H σ ls (ws ++ vs) (as ++ ks)) (po : PostM G W σ vs ks (callK f as ls) Q) :
    ∃ F0 W0 ps, noAli ps ∧ Rp ⟨G.K, G.mg, ⟨F0, H, W0, noP⟩⟩ F0 H [] [] ws ps ∧ PostF ⟨G.K, G.mg, ⟨F0, H, W0, noP⟩⟩ ws (f ps) Q (fun cls d H' => W cls d σ H') := by
  unfold callK at po
  split at po
  · rename_i hn
    cases e : hands ls as with
    | none => simp only [e, PostM] at po
    | some ps =>
      simp only [e] at po
      obtain ⟨na, R1⟩ := call_pre R hl hn e
      refine ⟨F, _, ps, na, R1, ?_⟩
      cases e1 : f ps with
      | stk => simp only [e1, PostM] at po
      | err x ps' =>
        simp only [e1] at po
        cases e2 : backs as ps' ls with
        | none => simp only [e2, PostM] at po
        | some ls' =>
          simp only [e2] at po
          intro cls d F' H' C er
          obtain ⟨R2, _⟩ := call_post R hl hn e e2 C
          exact po cls d F' H' R2 er
      | ok k ps' =>
        simp only [e1] at po
        cases e2 : backs as ps' ls with
        | none => simp only [e2, PostM] at po
        | some ls' =>
          simp only [e2] at po
          split at po
          · rename_i hk
            intro v F' H' C
            obtain ⟨R2, hq⟩ := call_post R hl hn e e2 C.pop
            refine po v F' H' ?_
            have hd := C.good.head
            cases k with
            | dat d => obtain ⟨x, ex, dd⟩ := hd; cases ex; exact R2.pushDat dd
            | own d =>
              obtain ⟨p, ex, o⟩ := hd
              cases ex
              have ho : G.B.H p = none ∨ G.B.W p := by
                rcases o.2.1 with z | ⟨j, e', z1, z2⟩
                · refine .inl ?_
                  cases q : G.B.H p with
                  | none => rfl
                  | some u => exact absurd z (R.b2 p (by rw [q]; exact Option.some_ne_none _))
                · obtain ⟨_, _, _, _, _, _, _, _, _, o', _⟩ := argW_src R hl e z1 z2
                  exact o'.2.1
              refine R2.pushOwnAt ⟨o.1, ho, o.2.2⟩ fun n e' he z => ?_
              rcases hq n e' p he z with ⟨z1, z2⟩ | ⟨m, _, e'', _, z1, z2⟩
              · rcases o.2.1 with y | y
                · exact z2 y
                · exact z1 y
              · exact C.good.head_ne (p := p) (ad_one (.inl rfl) rfl) m e'' z1 z2
            | _ => cases hk
          · exact False.elim po
  · exact False.elim po
def startLS (n : Nat) (ps : List Slot) : LS := ps ++ List.replicate (n - ps.length) .emp
def settle (k : Slot) (ls : LS) : Option (Slot × LS) := match k with
  | .dat d => some (.dat d, ls)
  | .own d => some (.own d, ls)
  | .tre t => some (.dat t.er, ls)
  | .ali j => (match ls[j]? with
    | some (.own d) => some (.own d, ls.set j .emp)
    | some (.par d) => some (.dat d, ls.set j (.pdt d))
    | some (.dat d) => some (.dat d, ls)
    | some (.pdt d) => some (.dat d, ls)
    | some (.tre t) => some (.dat t.er, ls.set j (.dat t.er))
    | _ => none)
  | _ => none
def outs : List Slot → LS → Option (List Slot)
  | [], _ => some []
  | .dat d :: ps, _ :: ls => (outs ps ls).map (.dat d :: ·)
  | .par _ :: ps, .par d :: ls => (outs ps ls).map (.par d :: ·)
  | .par _ :: ps, .pdt d :: ls => (outs ps ls).map (.dat d :: ·)
  | _, _ => none
def finF (ps : List Slot) (r : S) : RF := match r with
  | .ret k ls => (match settle k ls with
    | some (k', ls') => (match outs ps ls' with
      | some ps' => .ok k' ps'
      | none => .stk)
    | none => .stk)
  | .nx ls => (match outs ps ls with
    | some ps' => .ok (.dat .non) ps'
    | none => .stk)
  | .err x ls => (match outs ps ls with
    | some ps' => .err x ps'
    | none => .stk)
  | _ => .stk
def funM (n : Nat) (b : SM) : List Slot → RF := fun ps => finF ps (b (startLS n ps))
inductive OutRel : Slot → Slot → Slot → Prop
  | dat (d : D) (s : Slot) : OutRel (.dat d) s (.dat d)
  | pp (d0 d : D) : OutRel (.par d0) (.par d) (.par d)
  | pd (d0 d : D) : OutRel (.par d0) (.pdt d) (.dat d)
theorem outs_get : ∀ {ps ps' : List Slot} {ls : LS}, outs ps ls = some ps' → ps'.length = ps.length ∧ ∀ (j : Nat) p', ps'[j]? = some p' → ∃ p s, ps[j]? = some p ∧ ls[j]? = some s ∧ OutRel p s p'
  | [], ps', ls, h => by cases h; exact ⟨rfl, fun j p e => by simp at e⟩
  | p :: ps, ps', [], h => by cases p <;> cases h
  | p :: ps, ps', s :: ls, h => by
    have key : ∀ {q : Slot}, OutRel p s q → (outs ps ls).map (q :: ·) = some ps' → ps'.length = (p :: ps).length ∧ ∀ (j : Nat) p', ps'[j]? = some p' → ∃ p1 s1, (p :: ps)[j]? = some p1 ∧ (s :: ls)[j]? = some s1 ∧ OutRel p1 s1 p' := fun {q} hr h => by
      cases e : outs ps ls with
      | none => rw [e] at h; cases h
      | some r =>
        rw [e] at h; cases h
        obtain ⟨a, b⟩ := outs_get e
        refine ⟨by simp [a], fun j p' hj => ?_⟩
        cases j with
        | zero => rw [List.getElem?_cons_zero] at hj; cases hj; exact ⟨p, s, rfl, rfl, hr⟩
        | succ j =>
          rw [List.getElem?_cons_succ] at hj
          obtain ⟨p1, s1, c1, c2, c3⟩ := b j p' hj
          exact ⟨p1, s1, by rw [List.getElem?_cons_succ]; exact c1, by rw [List.getElem?_cons_succ]; exact c2, c3⟩
    cases p with
    | dat d => exact key (.dat d s) h
    | par d =>
      cases s with
      | par d' => exact key (.pp d d') h
      | pdt d' => exact key (.pd d d') h
      | _ => cases h
    | _ => cases h
section
variable {K : PySem.W.Frag} {mg : Str → Option Value} {F F' H H' : Hp} {Wp : Addr → Prop} {σ : L2.St} {ls ls' : LS} {vs : List V} {ps ps' : List Slot} {v : V} {k k' : Slot} {N : List Str}
theorem start_get {i : Nat} (hi : i < vs.length) : (L2.start N vs)[i]? = some (some (vs[i]'hi)) := by
  unfold L2.start
  rw [List.getElem?_append_left (by simpa using hi), List.getElem?_map, List.getElem?_eq_getElem hi]
  rfl
theorem fn_start (hn : vs.length ≤ N.length) (na : noAli ps) (R : Rp ⟨K, mg, ⟨F, H, Wp, noP⟩⟩ F H [] [] vs ps) : Rp ⟨K, mg, ⟨F, H, Wp, fun i => (L2.start N vs)[i]?⟩⟩ F H (L2.start N vs) (startLS N.length ps) [] [] := by
  have kl := R.klen
  have look : ∀ (n : Nat) (e : Ent), ((L2.start N vs).zip (startLS N.length ps))[n]? = some e → (ent vs ps [] [])[n]? = some e ∨ e.2 = .emp := fun n e he => by
    obtain ⟨u, s⟩ := e
    rw [List.getElem?_zip_eq_some] at he
    obtain ⟨h1, h2⟩ := he
    by_cases hv : n < vs.length
    · rw [start_get hv] at h1
      cases h1
      unfold startLS at h2
      rw [List.getElem?_append_left (by omega)] at h2
      exact .inl (ent_stk (List.getElem?_eq_getElem hv) h2 [] [] kl)
    · refine .inr ?_
      unfold startLS at h2
      rw [List.getElem?_append_right (by omega), List.getElem?_replicate] at h2
      split at h2
      · cases h2; rfl
      · cases h2
  have ge : ent ([] : List V) ([] : List Slot) (L2.start N vs) (startLS N.length ps) = (L2.start N vs).zip (startLS N.length ps) := rfl
  refine ⟨R.ex, R.ex0, ?_, rfl, ?_, fun w i hm => by simp at hm, fun i d hd => ?_, R.b1, R.b2, R.b3⟩
  · unfold L2.start startLS
    simp
    omega
  · rw [ge]
    refine ⟨fun n e he => ?_, fun m n e e' p h1 h2 o1 o2 => ?_⟩
    · rcases look n e he with z | z
      · exact (R.good.all n e z).reP
      · obtain ⟨u, s⟩ := e
        have z : s = .emp := z
        subst z
        trivial
    · rcases look m e h1 with z | z
      · rcases look n e' h2 with y | y
        · exact R.good.nd m n e e' p z y o1 o2
        · obtain ⟨u, s⟩ := e'
          have y : s = .emp := y
          subst y
          cases o2
      · obtain ⟨u, s⟩ := e
        have z : s = .emp := z
        subst z
        cases o1
  · have hi : i < vs.length := by
      refine Nat.lt_of_not_le fun hc => ?_
      unfold startLS at hd
      rw [List.getElem?_append_right (by omega), List.getElem?_replicate] at hd
      split at hd <;> rcases hd with z | z | z | ⟨t, z⟩ <;> cases z
    exact ⟨_, start_get hi, start_get hi⟩
theorem fn_outs {us : List V} {kk : List Slot} (hn : vs.length ≤ N.length) (R0 : Rp ⟨K, mg, ⟨F, H, Wp, noP⟩⟩ F H [] [] vs ps) (R : Rp ⟨K, mg, ⟨F, H, Wp, fun i => (L2.start N vs)[i]?⟩⟩ F' H' σ ls us kk) (hk : ∀ s ∈ kk, Slot.res s = true) (ho : outs ps ls = some ps') :
    Rp ⟨K, mg, ⟨F, H, Wp, noP⟩⟩ F' H' [] [] (us ++ vs) (kk ++ ps') := by
  obtain ⟨hl, hg⟩ := outs_get ho
  have kl0 := R0.klen
  have kl := R.klen
  -- each new entry is one of the frame's, or data of the start
  have look : ∀ (n : Nat) (e : Ent), (ent (us ++ vs) (kk ++ ps') [] [])[n]? = some e → (EnOk ⟨K, mg, ⟨F, H, Wp, noP⟩⟩ F' H' e) ∧ ∀ q, q ∈ adE H' e → ∃ e', (ent us kk σ ls)[n]? = some e' ∧ q ∈ adE H' e' := fun n e he => by
    obtain ⟨w, q, h1, h2, rfl⟩ := ent_nil he
    by_cases hu : n < us.length
    · rw [List.getElem?_append_left hu] at h1
      rw [List.getElem?_append_left (by omega)] at h2
      have e1 := ent_stk h1 h2 σ ls kl
      refine ⟨?_, fun q' hq => ⟨_, e1, hq⟩⟩
      exact (R.good.all n _ e1).reP
    · obtain ⟨j, rfl⟩ : ∃ j, n = us.length + j := ⟨n - us.length, by omega⟩
      rw [List.getElem?_append_right (by omega)] at h1
      rw [List.getElem?_append_right (by omega)] at h2
      have a1 : us.length + j - us.length = j := by omega
      have a2 : us.length + j - kk.length = j := by omega
      rw [a1] at h1
      rw [a2] at h2
      obtain ⟨p, s, c1, c2, c3⟩ := hg j q h2
      have bj := (List.getElem?_eq_some_iff.mp h1).1
      have pinned : ∀ {d : D}, (s = .par d ∨ s = .pdt d) → (ent us kk σ ls)[us.length + j]? = some (some w, s) := fun {d} hs => by
        obtain ⟨u, p1, p2⟩ := R.pin j d (by rcases hs with rfl | rfl; exact .inl c2; exact .inr (.inl c2))
        have e1 : (L2.start N vs)[j]? = some u := p1
        rw [start_get bj] at e1
        cases e1
        obtain ⟨_, hw⟩ := List.getElem?_eq_some_iff.mp h1
        rw [hw] at p2
        rw [ent_loc kl]
        exact zip_at p2 c2
      cases c3 with
      | dat d s =>
        have := R0.good.all j _ (ent_stk h1 c1 [] [] kl0)
        obtain ⟨x, ex, dd⟩ := this
        cases ex
        exact ⟨⟨_, rfl, dd.mono R.ex0⟩, fun q' hq => by cases hq⟩
      | pp d0 d =>
        have e1 := pinned (d := d) (.inl rfl)
        have := R.good.all _ _ e1
        exact ⟨this, fun q' hq => ⟨_, e1, hq⟩⟩
      | pd d0 d =>
        have e1 := pinned (d := d) (.inr rfl)
        have := R.good.all _ _ e1
        exact ⟨this, fun q' hq => by cases hq⟩
  refine ⟨R.ex, R.ex0, rfl, by simp; omega, ⟨fun n e he => (look n e he).1, fun m n e e' p h1 h2 o1 o2 => ?_⟩, fun w i hm => ?_, fun i d hd => by rcases hd with z | z | z | ⟨t, z⟩ <;> simp at z, R.b1, R.b2, R.b3⟩
  · obtain ⟨e1, a1, a2⟩ := (look m e h1).2 p o1
    obtain ⟨e2, b1, b2⟩ := (look n e' h2).2 p o2
    exact R.good.nd m n e1 e2 p a1 b1 a2 b2
  · have := (List.of_mem_zip hm).2
    rcases List.mem_append.mp this with z | z
    · exact absurd (hk _ z) (fun q => Bool.noConfusion q)
    · obtain ⟨j, hj⟩ := List.getElem?_of_mem z
      obtain ⟨p, s, _, _, c3⟩ := hg j _ hj
      cases c3
theorem settle_ok {G : Cfg} (R : Rp G F H σ ls [v] [k]) (h : settle k ls = some (k', ls')) : ∃ F' σ', Rp G F' H σ' ls' [v] [k'] ∧ k'.res = true := by
  cases k with
  | dat d => cases h; exact ⟨F, σ, R, rfl⟩
  | own d => cases h; exact ⟨F, σ, R, rfl⟩
  | ali j =>
    obtain ⟨s, a1, a2, a3⟩ := R.al v j List.mem_cons_self
    simp only [settle, a2] at h
    have R1 := R.pop
    have e1 : (ent [] [] σ ls)[([] : List V).length + j]? = some (some v, s) := by rw [ent_loc rfl]; exact zip_at a1 a2
    cases s with
    | own d1 =>
      cases h
      obtain ⟨p, e, o⟩ := R1.good.all _ _ e1
      cases e
      refine ⟨F, _, (R1.setNone (i := j) (by simp)).pushOwnAt o fun n e' he z => ?_, rfl⟩
      rw [ent_set rfl] at he
      by_cases hn : n = ([] : List V).length + j
      · rw [hn, List.getElem?_set] at he
        simp only [if_true] at he
        split at he
        · cases he; cases z
        · cases he
      · rw [List.getElem?_set_ne (Ne.symm hn)] at he
        exact hn (R1.good.nd n _ _ _ p he e1 z (ad_one (.inl rfl) rfl))
    | par d1 =>
      cases h
      obtain ⟨p, F', b1, x, dd, R2⟩ := R1.frzLoc (.inr rfl) a2
      rw [a1] at b1; cases b1
      exact ⟨F', σ, R2.pushDat dd, rfl⟩
    | dat d1 =>
      cases h
      obtain ⟨y, b3, b4⟩ := R1.good.all _ _ e1
      cases b3
      exact ⟨F, σ, R1.pushDat b4, rfl⟩
    | pdt d1 =>
      cases h
      obtain ⟨y, b3, b4⟩ := R1.good.all _ _ e1
      cases b3
      exact ⟨F, σ, R1.pushDat b4, rfl⟩
    | tre t =>
      cases h
      obtain ⟨p, F', b1, x, dd, R2⟩ := R1.frzLocT (.inl ⟨rfl, rfl⟩) a2
      rw [a1] at b1; cases b1
      exact ⟨F', σ, R2.pushDat dd, rfl⟩
    | ptr t => cases h
    | emp => cases h
    | ali _ => cases h
  | tre t => cases h; obtain ⟨F', x, _, R'⟩ := R.frzTopT; exact ⟨F', σ, R', rfl⟩
  | _ => cases h
end
structure RoomG (k : Nat) (A : Around) : Prop where
  r : Room k A
  g : A.guards = some []
theorem RoomG.mono {j k : Nat} {A : Around} (r : RoomG k A) (h : j ≤ k) : RoomG j A := ⟨r.r.mono h, r.g⟩
theorem RoomG.deeper {k : Nat} {A : Around} (r : RoomG (k + 1) A) (env : Env) : RoomG k (A.deeper env) := ⟨r.r.deeper env, r.g⟩
theorem RoomG.make {k : Nat} {A : Around} (r : RoomG (k + 1) A) (C : Addr) (us : List Value) (kw : List (Str × Value)) : RoomG k (A.under (.builtin "type.__call__" ⟨.ref C :: us, kw⟩)) := ⟨r.r.make C us kw, by
  have h : (Code.builtin "type.__call__" ⟨.ref C :: us, kw⟩).isGuard = false := by first | rfl | simp [Code.isGuard, guardIds]
  simp only [Around.under, Code.guards, h]
  exact r.g⟩
structure FnG (P : Program) (w : World) (K : PySem.W.Frag) (mg : Str → Option Value) (base : Heap) (CX : CXT) (k : Nat) (f : Addr) (fd : FuncData) (pn : List Str) (sp : Sp) : Prop where
  len : ∀ vs H Q E, sp vs H Q E → vs.length = pn.length
  run : ∀ (A : Around) (outer : List Env) (s : Shared) (H : Hp) (args : Args) (us : List Value) (vs : List V) (Q : VK) (E : XK), RoomG k A → Env0 P w K mg base A outer s H → BindsTo s fd args (pn.zip us) → Vals vs us → sp vs H Q E →
    codeAny (model P w) A (.call (.ref f) args) (CR CX outer P w H s Q E) s
theorem FnG.mono {P : Program} {w : World} {K : PySem.W.Frag} {mg : Str → Option Value} {base : Heap} {CX : CXT} {j k : Nat} {f : Addr} {fd : FuncData} {pn : List Str} {sp : Sp} (F : FnG P w K mg base CX j f fd pn sp) (h : j ≤ k) : FnG P w K mg base CX k f fd pn sp :=
  ⟨F.len, fun A outer s H args us vs Q E hr => F.run A outer s H args us vs Q E (hr.mono h)⟩
section
open PySem.Spec PyProof.Rows
theorem fn_ofG {CX : CXT} {P : Program} {w : World} {K : PySem.W.Frag} {mg : Str → Option Value} {base : Heap} {k : Nat} {f : Addr} {x qual : Str} {st : Stmt} {fd : FuncData} {N pn : List Str} {sp : Sp} (F : L2.Fun K x qual st f fd) (S : FnScope N pn (defScope st))
    (len : ∀ vs H Q E, sp vs H Q E → vs.length = pn.length)
    (hbody : ∀ (cdv : Value) (A : Around) (outer : List Env) (s : Shared) (H : Hp) (vs : List V) (Q : VK) (E : XK), RoomG k (A.deeper (PyProof.Rows.envOfC qual (defScope st) s.heap.objs.size f cdv)) → sp vs H Q E →
      ∃ t, L2.PSs (cxOf CX P w K mg base N qual (defScope st) f cdv A outer s H E) (defBody st) t ∧ t { nx := fun _ H' => Q .non H', rt := Q } (L2.start N vs) H) : FnG P w K mg base CX (k + 1) f fd pn sp := by
  obtain ⟨oc, od, kV, doc, pm, an, cdv, ct, osl, rfl, lk, hcd⟩ := F.ex
  refine ⟨len, fun A outer s H args us vs Q E hr e0 hb rv hsp => ?_⟩
  have hl := len _ _ _ _ hsp
  have KX : K.In s.heap := e0.mod.kin.keeps (fun b o e => (e0.bs b o e).1)
  have lm : s.heap.NoLimit := e0.mod.nolimit.keeps (fun b o e => (e0.bs b o e).1)
  have kinds : ∀ y ∈ pn.zip us, (defScope st).names.lookup y.1 = some .local ∨ ((defScope st).names.lookup y.1 = some .cell ∧ ((cellsFrom (s.heap.objs.size + 1) (defScope st).names []).lookup y.1).isSome = true) := by
    intro y hy
    exact (S.par y.1 (List.of_mem_zip hy).1).imp id fun q => ⟨q, PySem.W.cellsFrom_some _ _ _ (.inl q)⟩
  refine codeAny_call_function hr.r.depth (KX _ _ lk) rfl S.co S.gen rfl (PySem.W.codeRec_of KX hcd) (hb _ _ _ _ (wpAny_newFunctionEnv_cells S.kind kinds fun env he s1 x => ?_))
  subst he
  refine ⟨lm.keeps x.toInCall.keep, codeAny_func ?_⟩
  obtain ⟨t, ht, hq⟩ := hbody cdv A outer s H vs Q E (hr.deeper _) hsp
  have I : Inv (cxOf CX P w K mg base N qual (defScope st) f cdv A outer s H E) [] (L2.start N vs) H s1 := inv_start S hr.r.hd e0 hl rv x
  refine wpAny_mono (ht.run [] s1 (L2.start N vs) H _ I hq) (fun fl s' hs => ?_) (fun e s' hs => hs)
  have fin : ∀ {σ' : L2.St} {H' : Hp} {v : V} {u : Value}, Inv (cxOf CX P w K mg base N qual (defScope st) f cdv A outer s H E) [] σ' H' s' → RelV v u → Q v H' → CE outer P w H s Q u s' := fun {σ' H' v u} J r q => ⟨v, H', J.os, J.bare, J.base, J.hok, r, q⟩
  cases fl with
  | ret u => exact let ⟨v, σ', H', J, r, q⟩ := hs; fin J r q
  | next => exact let ⟨σ', H', J, q⟩ := hs; fin (v := V.non) (u := Value.none) J rfl q
  | brk => exact let ⟨_, _, _, q⟩ := hs; q.elim
  | cont => exact let ⟨_, _, _, q⟩ := hs; q.elim
end
section
open PySem.Spec PyProof.Rows
variable {X : Cx} {CX : CXT} {k : Nat} {f C : Addr} {fd : FuncData} {pn : List Str} {sp : Sp} {pins : List (Addr × Obj)} {σ : L2.St} {H : Hp} {s : Shared} {Q : VK} {us : List Value} {vs : List V} {E : XK}
theorem run_fnG (F : FnG X.prog X.w X.K X.mg X.base CX k f fd pn sp) (hr : RoomG k X.A) (hb : Binds X.K fd pn []) (hx : PassesAt CX X σ E) (I : Inv X pins σ H s) (r : Vals vs us) (h : sp vs H Q E) : wpAny (model X.prog X.w) X.A (call (.ref f) us) (EP X pins σ Q) X.xe s := by
  have hl : us.length = pn.length := r.length.symm.trans (F.len _ _ _ _ h)
  have b := hb s us I.kIn (by simpa using hl)
  rw [List.append_nil] at b
  refine wpAny_call (codeAny_mono (F.run X.A X.stack s H ⟨us, []⟩ us vs Q E hr I.env0 b r h) fun r2 s' hq => ?_)
  cases r2 with
  | error e => exact hx pins H s e s' I hq
  | ok fl => cases fl <;> first | exact I.after hq | exact False.elim hq
end
theorem fin_post {K : PySem.W.Frag} {mg : Str → Option Value} {F0 H : Hp} {Wp : Addr → Prop} {N : List Str} {vs : List V} {ps : List Slot} {b : SM} {Q : VK} {E : XK} (hv : vs.length ≤ N.length) (R : Rp ⟨K, mg, ⟨F0, H, Wp, noP⟩⟩ F0 H [] [] vs ps)
    (po : PostF ⟨K, mg, ⟨F0, H, Wp, noP⟩⟩ vs (funM N.length b ps) Q E) : PostS ⟨K, mg, ⟨F0, H, Wp, fun i => (L2.start N vs)[i]?⟩⟩ (fun cls d _ H => E cls d H) [] [] (b (startLS N.length ps)) { nx := fun _ H' => Q .non H', rt := Q } := by
  unfold funM at po
  cases e : b (startLS N.length ps) with
  | nx ls =>
    simp only [e, finF] at po
    cases e1 : outs ps ls with
    | none => simp only [e1, PostF] at po
    | some ps' =>
      simp only [e1] at po
      intro σ' F' H' R'
      exact po .non F' H' ((fn_outs (us := []) (kk := []) hv R R' (by simp) e1).pushDat .non)
  | err ex ls =>
    simp only [e, finF] at po
    cases e1 : outs ps ls with
    | none => simp only [e1, PostF] at po
    | some ps' =>
      simp only [e1] at po
      intro cls d σ' F' H' R' er
      exact po cls d F' H' (fn_outs (us := []) (kk := []) hv R R' (by simp) e1) er
  | ret kk ls =>
    simp only [e, finF] at po
    cases e1 : settle kk ls with
    | none => simp only [e1, PostF] at po
    | some q =>
      obtain ⟨k', ls'⟩ := q
      simp only [e1] at po
      cases e2 : outs ps ls' with
      | none => simp only [e2, PostF] at po
      | some ps' =>
        simp only [e2] at po
        intro v σ' F' H' R'
        obtain ⟨F2, σ2, R2, hr2⟩ := settle_ok R' e1
        exact po v F2 H' (fn_outs (us := [v]) (kk := [k']) hv R R2 (by simp [hr2]) e2)
  | brk ls => simp only [e, finF, PostF] at po
  | cnt ls => simp only [e, finF, PostF] at po
  | stk => simp only [e, finF, PostF] at po
theorem fun_ok {P : Program} {w : World} {K : PySem.W.Frag} {mg : Str → Option Value} {base : Heap} {x qual : Str} {st : Stmt} {f : Addr} {fd : FuncData} {N pn : List Str} {k n m : Nat} {b : SM} (F : L2.Fun K x qual st f fd) (S : FnScope N pn (defScope st))
    (hn : n = pn.length) (hm : m = N.length)
    (hbody : ∀ (cdv : Value) (A : Around) (outer : List Env) (s : Shared) (H : Hp) (E : XK) (B : Base), RoomG k (A.deeper (PyProof.Rows.envOfC qual (defScope st) s.heap.objs.size f cdv)) →
      L2.PSs (cxOf (L2.CX P w) P w K mg base N qual (defScope st) f cdv A outer s H E) (defBody st) (tS ⟨K, mg, B⟩ (fun cls d _ H => E cls d H) b)) :
    FnG P w K mg base (L2.CX P w) (k + 1) f fd pn (spM K mg n (funM m b)) := by
  subst hm
  refine fn_ofG F S (fun vs H Q E h => h.1.trans hn) (fun cdv A outer s H vs Q E hr h => ?_)
  obtain ⟨hlen, F0, Wp, ps, na, R, po⟩ := h
  have hpn : pn.length ≤ N.length := by
    have := congrArg List.length S.pre
    rw [List.length_take] at this
    omega
  have hv : vs.length ≤ N.length := by omega
  refine ⟨_, hbody cdv A outer s H E ⟨F0, H, Wp, fun i => (L2.start N vs)[i]?⟩ hr, ?_⟩
  refine ⟨F0, startLS N.length ps, [], [], fun i => by simp, fn_start hv na R, ?_⟩
  exact fin_post hv R po
end VM
set_option maxHeartbeats 1000000
namespace VM
open PySem L2
section
variable {X : Cx} {CX : CXT} {k : Nat} {f C : Addr} {fd : FuncData} {pn : List Str} {sp : Sp} {E : L2.St → XK} {x m : Str} {p pos apos : Pos} {e o : Expr} {es : List Expr} {ta : TE} {t : TA}
theorem pe_callG (F : FnG X.prog X.w X.K X.mg X.base CX k f fd pn sp) (hr : RoomG k X.A) (hg : Gl X x) (hm : X.mg x = some (.ref f)) (hk : PySem.W.keepIn X.K (.ref f) = true) (hb : Binds X.K fd pn []) (hx : ∀ σ, PassesAt CX X σ (E σ))
    (ha : L2.PA X (e :: es) t) (hdb : (x == ("__debug__" : Str)) = false) (he : starEach (e :: es) X.env = (false, eval e X.env) :: starEach es X.env) (hpl : (backTo pos (starEach es X.env)).any (·.1) = false) :
    L2.PE X (.Call (.Name x p) (e :: es) [] pos) (tCallS sp E t) := by
  refine ⟨fun pins s σ H Q I h => wpAny_Call_Name_kw (ld_glob I hg hm ?_ hdb)⟩
  refine PySem.W.callWith_K (h₀ := X.base) I.ok.mod.kin hk (thn (ha.run pos pins s σ H _ I h) fun us s1 ⟨vs, H1, I1, r, q⟩ => ⟨I1.kIn, run_fnG F hr hb (hx σ) I1 r q⟩) he hpl
def tMethD (C : Addr) (m : Str) (sp : Sp) (E : L2.St → XK) (ta : TE) (t : TA) : TE := fun σ H Q => ta σ H fun x H1 => ∃ a dx fs, x = .ref a ∧ H1 a = some (.ins C dx fs) ∧ fs.lookup m = none ∧
  t σ H1 fun vs H2 => sp (x :: vs) H2 Q (E σ)
def tMakeD (C : Addr) (sp : Sp) (E : L2.St → XK) (t : TA) : TE := fun σ H Q => t σ H fun vs H1 => ∀ x dx, H1 x = none → H1 dx = none → dx ≠ x →
  sp (.ref x :: vs) (upd (upd H1 dx (.own x)) x (.ins C dx [])) (fun v H2 => v = .non ∧ Q (.ref x) H2) (E σ)
def tPropG (C : Addr) (sp : Sp) (ta : TE) : TE := fun σ H Q => ta σ H fun x H1 => ∃ a dx fs, x = .ref a ∧ H1 a = some (.ins C dx fs) ∧ sp [.ref a] H1 Q E0
end
def callN (n : Nat) (f : List Slot → RF) (am : AM) : M := fun ls => (am ls).bind fun as ls => if as.length = n then callK f as ls else .stk
def methN (x : List Str) (n : Nat) (f : List Slot → RF) (o : M) (am : AM) : M := fun ls => (o ls).bind fun k ls => match look ls k with
  | some (.ins y _) => if y ∈ x then (am ls).bind fun as ls => (if as.length = n then callK f (k :: as) ls else .stk) else .stk
  | _ => .stk
def makeK (c : Str) (f : List Slot → RF) (as : List Slot) (ls : LS) : R := if (alis as).Nodup then (match hands ls as with
  | some ps => (match f (.par (.ins c []) :: ps) with
    | .ok (.dat .non) (.par d :: ps') => (match backs as ps' ls with
      | some ls' => .ok (.own d) ls'
      | none => .stk)
    | .ok (.dat .non) (.dat d :: ps') => (match backs as ps' ls with
      | some ls' => .ok (.dat d) ls'
      | none => .stk)
    | .err x (.par _ :: ps') => (match backs as ps' ls with
      | some ls' => .err x ls'
      | none => .stk)
    | .err x (.dat _ :: ps') => (match backs as ps' ls with
      | some ls' => .err x ls'
      | none => .stk)
    | _ => .stk)
  | none => .stk) else .stk
def makeN (c : Str) (n : Nat) (f : List Slot → RF) (am : AM) : M := fun ls => (am ls).bind fun as ls => if as.length = n then makeK c f as ls else .stk
section
variable {X : Cx} {B : Base} {W : WX} {k n : Nat} {f C : Addr} {fd : FuncData} {pn : List Str} {x m : Str} {p pos apos : Pos} {e o : Expr} {es : List Expr} {am : AM} {om : M} {g : List Slot → RF} {xs : List Str}
theorem e_call (F : FnG X.prog X.w X.K X.mg X.base (L2.CX X.prog X.w) k f fd pn (spM X.K X.mg n g)) (hr : RoomG k X.A) (hm : X.mg x = some (.ref f)) (hk : PySem.W.keepIn X.K (.ref f) = true) (hb : Binds X.K fd pn []) (tk : Takes X W) (ha : L2.PA X (e :: es) (tA (cfg X B) W am))
    (hg : Gl X x := by rfl) (hdb : (x == ("__debug__" : Str)) = false := by decide) (he : starEach (e :: es) X.env = (false, eval e X.env) :: starEach es X.env := by rfl) (hpl : (backTo pos (starEach es X.env)).any (·.1) = false := by rfl) :
    L2.PE X (.Call (.Name x p) (e :: es) [] pos) (tM (cfg X B) W (callN n g am)) := PE.imp (pe_callG F hr hg hm hk hb (fun σ => passAt tk σ) ha hdb he hpl) fun σ H Q h => by
  refine tA_bind h fun F ls vs ks ws H' as hl R po => ?_
  split at po
  · rename_i hn
    obtain ⟨F0, W0, ps, na, R1, po1⟩ := callK_ok hl R po
    exact ⟨by omega, F0, W0, ps, na, R1, po1⟩
  · exact False.elim po
theorem ddf_lookup {K : PySem.W.Frag} {mg : Str → Option Value} {F : Hp} {y : Str} : ∀ {gs : List (Str × D)} {fs : List (Str × V)}, DDf K mg F gs fs → (gs.lookup y = none ∧ fs.lookup y = none) ∨ ∃ d v, gs.lookup y = some d ∧ fs.lookup y = some v ∧ DD K mg F d v
  | _, _, .nil => .inl ⟨rfl, rfl⟩
  | _, _, .cons (f := f) h r => by
    by_cases hf : y = f
    · subst hf
      exact .inr ⟨_, _, by simp [List.lookup], by simp [List.lookup], h⟩
    · have hf' : (y == f) = false := by simpa using hf
      simp only [List.lookup, hf']
      exact ddf_lookup r
def methL (m : Str) (x : List Str) (n : Nat) (f : List Slot → RF) (o : M) (am : AM) : M := fun ls => (o ls).bind fun k ls => match look ls k with
  | some (.ins y gs) => if y ∈ x ∧ gs.lookup m = none then (am ls).bind fun as ls => (if as.length = n then callK f (k :: as) ls else .stk) else .stk
  | _ => .stk
def propL (x : List Str) (f : List Slot → RF) (o : M) : M := fun ls => (o ls).bind fun k ls => match look ls k with
  | some (.ins y _) => if y ∈ x then (match callK f [k] ls with
    | .ok k ls => .ok k ls
    | _ => .stk) else .stk
  | _ => .stk
end
abbrev TgM := D → LS → Option LS
def tgN (i : Nat) : TgM := fun d ls => some (ls.set i (.dat d))
def tgs : List TgM → List D → LS → Option LS
  | [], [], ls => some ls
  | t :: ts, d :: ds, ls => match t d ls with
    | some ls' => tgs ts ds ls'
    | none => none
  | _, _, _ => none
def tgT (ts : List TgM) : TgM := fun d ls => match d with
  | .tup ds => if ds.length = ts.length then tgs ts ds ls else none
  | _ => none
def tgL (ts : List TgM) : TgM := fun d ls => match d with
  | .lst ds => if ds.length = ts.length then tgs ts ds ls else none
  | _ => none
def Agree (is : List Nat) (σ' σ : L2.St) : Prop := σ'.length = σ.length ∧ ∀ i, i ∉ is → σ'[i]? = σ[i]?
theorem Agree.refl {is : List Nat} {σ : L2.St} : Agree is σ σ := ⟨rfl, fun _ _ => rfl⟩
theorem Agree.trans {is js : List Nat} {σ σ1 σ2 : L2.St} (a : Agree is σ2 σ1) (b : Agree js σ1 σ) : Agree (is ++ js) σ2 σ :=
  ⟨a.1.trans b.1, fun i hi => by
    rw [List.mem_append, not_or] at hi
    exact (a.2 i hi.1).trans (b.2 i hi.2)⟩
section
variable (G : Cfg)
def tG (t : TgM) (is : List Nat) : TG := fun x σ H C => ∃ F ls vs ks d, (∀ i ∈ is, Slot.ali i ∉ ks) ∧ Rp G F H σ ls (x :: vs) (.dat d :: ks) ∧ match t d ls with
  | some ls' => ∀ σ' F' H', Rp G F' H' σ' ls' vs ks → Agree is σ' σ → C σ' H'
  | none => False
def tGs (ts : List TgM) (is : List Nat) : TGs := fun xs σ H C => ∃ F ls vs ks ds, (∀ i ∈ is, Slot.ali i ∉ ks) ∧ xs.length = ds.length ∧ Rp G F H σ ls (xs ++ vs) (ds.map Slot.dat ++ ks) ∧ match tgs ts ds ls with
  | some ls' => ∀ σ' F' H', Rp G F' H' σ' ls' vs ks → Agree is σ' σ → C σ' H'
  | none => False
end
section
variable {X : Cx} {B : Base} {W : WX} {e a b c : Expr} {es : List Expr} {m ma mb : M} {am : AM} {i n : Nat} {pos : Pos} {t : TgM} {ts : List TgM} {is js : List Nat} {tgt : Expr} {tgts : List Expr}
theorem PG.imp {X : Cx} {e : Expr} {t t' : TG} (h : L2.PG X e t) (hi : ∀ v σ H Q, t' v σ H Q → t v σ H Q) : L2.PG X e t' := ⟨fun pins s σ H v u Q I r q => h.run pins s σ H v u Q I r (hi v σ H Q q)⟩
theorem PGs.imp {X : Cx} {e : List Expr} {t t' : TGs} (h : L2.PGs X e t) (hi : ∀ v σ H Q, t' v σ H Q → t v σ H Q) : L2.PGs X e t' := ⟨fun pins s σ H v u Q I r q => h.run pins s σ H v u Q I r (hi v σ H Q q)⟩
theorem ali_dats {ds : List D} {ks : List Slot} {i : Nat} (h : Slot.ali i ∉ ks) : Slot.ali i ∉ (ds.map Slot.dat ++ ks) := fun hm => by
  rcases List.mem_append.mp hm with z | z
  · obtain ⟨d, _, hd⟩ := List.mem_map.mp z
    cases hd
  · exact h z
theorem Rp.setTopA {G : Cfg} {F H : Hp} {σ : L2.St} {ls : LS} {vs : List V} {ks : List Slot} {v : V} {k : Slot} {i : Nat} (R : Rp G F H σ ls (v :: vs) (k :: ks)) (hn : Slot.ali i ∉ ks) (hk : k.fit = true) : Rp G F H (σ.set i (some v)) (ls.set i k) vs ks := by
  have R' := R.pop
  refine ⟨R.ex, R.ex0, by simp [R.len], R'.klen, ?_, fun w i' hj => ?_, R.pinSet hk, R.b1, R.b2, R.b3⟩
  · rw [ent_set R'.klen]
    refine R'.good.set R.good.head fun q hq m e' _ he => R.good.head_ne hq m e' he
  · obtain ⟨s, a1, a2, a3⟩ := R'.al w i' hj
    have hne : i ≠ i' := fun z => hn (by rw [z]; exact (List.of_mem_zip hj).2)
    exact ⟨s, by rw [List.getElem?_set_ne hne]; exact a1, by rw [List.getElem?_set_ne hne]; exact a2, a3⟩
theorem g_name {x : Str} (i : Nat) (hN : X.N.Nodup) (hi : X.N[i]? = some x := by rfl) (hx : Loc X.env.scope x := by first | exact Or.inl rfl | exact Or.inr rfl) (hf : X.fn x = true ∨ X.env.scope.names.lookup x = some .local := by first | exact .inl rfl | exact .inr rfl | assumption) :
    L2.PG X (.Name x pos) (tG (cfg X B) (tgN i) [i]) := PG.imp (pg_name hN hi hx hf) fun v σ H Q h => by
  obtain ⟨F, ls, vs, ks, d, na, R, h⟩ := h
  exact h _ F H (R.setTopA (na i (by simp)) rfl) ⟨by simp, fun j hj => by
    rw [List.mem_singleton] at hj
    exact List.getElem?_set_ne (Ne.symm hj)⟩
theorem gs_nil : L2.PGs X [] (tGs (cfg X B) [] []) := PGs.imp pgs_nil fun v σ H Q h => by
  obtain ⟨F, ls, vs, ks, ds, na, hl, R, h⟩ := h
  cases ds with
  | nil =>
    cases v with
    | nil => exact ⟨rfl, h σ F H R Agree.refl⟩
    | cons _ _ => simp at hl
  | cons d ds => exact h.elim
theorem gs_cons (h1 : L2.PG X tgt (tG (cfg X B) t is)) (h2 : L2.PGs X tgts (tGs (cfg X B) ts js)) (hs : (assignEach (tgt :: tgts) X.env).map (·.2) = assign tgt X.env :: (assignEach tgts X.env).map (·.2) := by rfl) :
    L2.PGs X (tgt :: tgts) (tGs (cfg X B) (t :: ts) (js ++ is)) := PGs.imp (pgs_cons h1 h2 hs) fun v σ H Q h => by
  obtain ⟨F, ls, vs, ks, ds, na, hl, R, h⟩ := h
  cases ds with
  | nil => exact h.elim
  | cons d ds =>
    cases v with
    | nil => simp at hl
    | cons x xs =>
      refine ⟨x, xs, rfl, F, ls, xs ++ vs, ds.map Slot.dat ++ ks, d, fun i hi => ali_dats (na i (List.mem_append_right _ hi)), R, ?_⟩
      cases e : t d ls with
      | none => simp only [tgs, e] at h
      | some ls1 =>
        simp only [tgs, e] at h
        intro σ1 F1 H1 R1 ag
        refine ⟨F1, ls1, vs, ks, ds, fun i hi => na i (List.mem_append_left _ hi), by simpa using hl, R1, ?_⟩
        cases e2 : tgs ts ds ls1 with
        | none => simp only [e2] at h
        | some ls2 =>
          simp only [e2] at h
          exact fun σ2 F2 H2 R2 ag2 => h σ2 F2 H2 R2 (ag2.trans ag)
theorem Rp.pushDats {G : Cfg} {F H : Hp} {σ : L2.St} {ls : LS} {vs : List V} {ks : List Slot} (R : Rp G F H σ ls vs ks) : ∀ {ds : List D} {xs : List V}, DDs G.K G.mg F ds xs → Rp G F H σ ls (xs ++ vs) (ds.map Slot.dat ++ ks)
  | _, _, .nil => R
  | _, _, .cons h r => (Rp.pushDats R r).pushDat h
theorem g_tup {k : Nat} (hc : X.calm = true) (h : L2.PGs X es (tGs (cfg X B) ts is)) (hn : (assignEach es X.env).length = n := by rfl) (hst : (assignEach es X.env).findIdx? (·.1) = none := by rfl) (hl : ts.length = n := by rfl) :
    L2.PG X (.Tuple es k pos) (tG (cfg X B) (tgT ts) is) := PG.imp (pg_tup hc h hn hst) fun v σ H Q h => by
  obtain ⟨F, ls, vs, ks, d, na, R, h⟩ := h
  cases d with
  | tup ds =>
    simp only [tgT] at h
    by_cases hz : ds.length = ts.length
    · rw [if_pos hz] at h
      have hd := R.good.head
      obtain ⟨x, ex, dd⟩ := hd
      cases ex
      cases dd with
      | tup f q => exact ⟨_, _, rfl, SqT.of (R.ex _ _ f), by rw [← q.length, hz, hl], F, ls, vs, ks, ds, na, q.length.symm, R.pop.pushDats q, h⟩
    · rw [if_neg hz] at h; exact h.elim
  | _ => exact h.elim
variable {st : Stmt} {sts : List Stmt} {sa sb : SM}
def nxM : SM := fun ls => .nx ls
def seqM (a b : SM) : SM := fun ls => (a ls).bind b
theorem ss_nil : L2.PSs X [] (tS (cfg X B) W nxM) := PSs.imp pss_nil fun D σ H h => by
  obtain ⟨F, ls, vs, ks, na, R, po⟩ := h
  exact po σ F H R
theorem ss_one (h : L2.PS X st (tS (cfg X B) W sa)) : L2.PSs X [st] (tS (cfg X B) W sa) := pss_one h
theorem ss_cons (h1 : L2.PS X st (tS (cfg X B) W sa)) (h2 : L2.PSs X sts (tS (cfg X B) W sb)) : L2.PSs X (st :: sts) (tS (cfg X B) W (seqM sa sb)) := PSs.imp (pss_cons h1 h2) fun D σ H h => by
  obtain ⟨F, ls, vs, ks, na, R, po⟩ := h
  refine ⟨F, ls, vs, ks, na, R, ?_⟩
  cases e : sa ls with
  | nx ls1 =>
    simp only [seqM, e, S.bind] at po
    exact fun σ' F' H' R' => ⟨F', ls1, vs, ks, na, R', po⟩
  | ret k ls1 => simp only [seqM, e, S.bind] at po; exact po
  | brk ls1 => simp only [seqM, e, S.bind] at po; exact po
  | cnt ls1 => simp only [seqM, e, S.bind] at po; exact po
  | err x ls1 => simp only [seqM, e, S.bind] at po; exact po
  | stk => simp only [seqM, e, S.bind, PostS] at po
def brkM : SM := fun ls => .brk ls
def cntM : SM := fun ls => .cnt ls
theorem tS_bind {G : Cfg} {D : Ends} {σ : L2.St} {H : Hp} {f : Slot → LS → S} (h : tS G W (fun ls => (m ls).bindS f) D σ H) {C : VK}
    (hk : ∀ F ls vs ks v H' k, noAli ks → Rp G F H' σ ls (v :: vs) (k :: ks) → PostS G W vs ks (f k ls) D → C v H') : tM G W m σ H C := by
  obtain ⟨F, ls, vs, ks, na, r, po⟩ := h
  refine ⟨F, ls, vs, ks, r, ?_⟩
  cases e : m ls with
  | ok k ls1 =>
    simp only [e, R.bindS] at po
    exact fun v F' H' r' => hk F' ls1 vs ks v H' k na r' po
  | err x ls1 =>
    simp only [e, R.bindS] at po
    exact fun cls d F' H' r' er => po cls d σ F' H' r' er
  | stk => simp only [e, R.bindS, PostS] at po
def dropM (m : M) : SM := fun ls => (m ls).bindS fun _ ls => .nx ls
def retM (m : M) : SM := fun ls => (m ls).bindS fun k ls => .ret k ls
theorem s_ret (h : L2.PE X e (tM (cfg X B) W m)) : L2.PS X (.Return (some e) pos) (tS (cfg X B) W (retM m)) := PS.imp (ps_ret h) fun D σ H h =>
  tS_bind h fun F ls vs ks v H' k na R po => po v σ F H' R
def ifS (c : M) (a b : SM) : SM := fun ls => (c ls).bindS fun k ls => match k with
  | .dat (.bl true) => a ls
  | .dat (.bl false) => b ls
  | _ => .stk
theorem s_if (hc : L2.PT X c (tT (cfg X B) W m)) (ha : L2.PSs X sts (tS (cfg X B) W sa)) {sts2 : List Stmt} (hb : L2.PSs X sts2 (tS (cfg X B) W sb)) : L2.PS X (.If c sts sts2 pos) (tS (cfg X B) W (ifS m sa sb)) := PS.imp (ps_if hc ha hb) fun D σ H h => by
  obtain ⟨F, ls, vs, ks, na, r, po⟩ := h
  refine ⟨F, ls, vs, ks, r, ?_⟩
  cases e : m ls with
  | ok k ls1 =>
    simp only [ifS, e, R.bindS] at po
    cases k with
    | dat d =>
      cases d with
      | bl b =>
        cases b with
        | true =>
          intro F' H' R'
          rw [if_pos rfl]
          exact ⟨F', ls1, vs, ks, na, R', po⟩
        | false =>
          intro F' H' R'
          rw [if_neg (by decide)]
          exact ⟨F', ls1, vs, ks, na, R', po⟩
      | _ => exact po.elim
    | _ => exact po.elim
  | err x ls1 =>
    simp only [ifS, e, R.bindS] at po
    exact fun cls d F' H' r' er => po cls d σ F' H' r' er
  | stk => simp only [ifS, e, R.bindS, PostS] at po
def asgK (i : Nat) (k : Slot) (ls : LS) : S := match k with
  | .dat d => .nx (ls.set i (.dat d))
  | .own d => .nx (ls.set i (.own d))
  | .tre t => .nx (ls.set i (.tre t))
  | .ali j => (match freezeK (.ali j) ls with
    | some (d, ls) => .nx (ls.set i (.dat d))
    | none => .stk)
  | _ => .stk
def asgM (i : Nat) (m : M) : SM := fun ls => (m ls).bindS fun k ls => asgK i k ls
theorem asgK_ok {G : Cfg} {F H : Hp} {σ : L2.St} {ls : LS} {vs ks} {v : V} {k : Slot} {D : Ends} (na : noAli ks) (R : Rp G F H σ ls (v :: vs) (k :: ks)) (po : PostS G W vs ks (asgK i k ls) D) : D.nx (σ.set i (some v)) H := by
  cases k with
  | dat d => exact po _ F H (R.setTop na rfl)
  | own d => exact po _ F H (R.setTop na rfl)
  | tre d => exact po _ F H (R.setTop na rfl)
  | ali j =>
    cases e : VM.freezeK (.ali j) ls with
    | none => simp only [asgK, e, PostS] at po
    | some q =>
      obtain ⟨d, ls'⟩ := q
      simp only [asgK, e] at po
      obtain ⟨F', _, R'⟩ := R.freezeK e
      exact po _ F' H (R'.setTop na rfl)
  | _ => exact po.elim
theorem s_set {x : Str} {pos' : Pos} (i : Nat) (hN : X.N.Nodup) (he : L2.PE X e (tM (cfg X B) W m)) (hi : X.N[i]? = some x := by rfl) (hx : Loc X.env.scope x := by first | exact Or.inl rfl | exact Or.inr rfl) (hs : swapsWith e (some (.Name x pos')) pos.line X.env = pure false := by rfl)
    (hf : X.fn x = true ∨ X.env.scope.names.lookup x = some .local := by first | exact .inl rfl | exact .inr rfl | assumption) : L2.PS X (.Assign [.Name x pos'] e pos) (tS (cfg X B) W (asgM i m)) := PS.imp (ps_set hN hi hx he hs hf) fun D σ H h =>
  tS_bind h fun F ls vs ks v H' k na R po => asgK_ok na R po
def asgT (t : TgM) (m : M) : SM := fun ls => (m ls).bindS fun k ls => match freezeK k ls with
  | some (d, ls) => (match t d ls with
    | some ls => .nx ls
    | none => .stk)
  | none => .stk
def asg2 (i j : Nat) (am : AM) : SM := fun ls => match am ls with
  | .ok [.dat d, .dat d'] ls => .nx ((ls.set i (.dat d)).set j (.dat d'))
  | .ok [.own d, .dat d'] ls => .nx ((ls.set i (.own d)).set j (.dat d'))
  | .ok [.dat d, .own d'] ls => .nx ((ls.set i (.dat d)).set j (.own d'))
  | .ok [.own d, .own d'] ls => .nx ((ls.set i (.own d)).set j (.own d'))
  | .err x ls => .err x ls
  | _ => .stk
mutual
def D.beq : D → D → Bool
  | .non, .non => true
  | .bl a, .bl b => a == b
  | .int a, .int b => a == b
  | .str a, .str b => a == b
  | .lst a, .lst b => D.beqs a b
  | .tup a, .tup b => D.beqs a b
  | .ktup a, .ktup b => D.beqs a b
  | .scr a, .scr b => decide (a = b)
  | .dK a, .dK b => D.beqk a b
  | .dT a, .dT b => D.beqt a b
  | .ins x a, .ins y b => decide (x = y) && D.beqf a b
  | .exc x a, .exc y b => decide (x = y) && D.beqf a b
  | _, _ => false
def D.beqs : List D → List D → Bool
  | [], [] => true
  | a :: as, b :: bs => D.beq a b && D.beqs as bs
  | _, _ => false
def D.beqk : List (Key × D) → List (Key × D) → Bool
  | [], [] => true
  | (k, a) :: as, (l, b) :: bs => decide (k = l) && D.beq a b && D.beqk as bs
  | _, _ => false
def D.beqt : List (List Key × D) → List (List Key × D) → Bool
  | [], [] => true
  | (k, a) :: as, (l, b) :: bs => decide (k = l) && D.beq a b && D.beqt as bs
  | _, _ => false
def D.beqf : List (Str × D) → List (Str × D) → Bool
  | [], [] => true
  | (k, a) :: as, (l, b) :: bs => decide (k = l) && D.beq a b && D.beqf as bs
  | _, _ => false
end
mutual
theorem D.beq_eq : ∀ {a b : D}, D.beq a b = true → a = b
  | .non, b, h => by cases b <;> first | rfl | (simp only [D.beq] at h; cases h)
  | .bl a, b, h => by cases b <;> simp only [D.beq] at h <;> first | (rw [eq_of_beq h]; done) | cases h
  | .int a, b, h => by cases b <;> simp only [D.beq] at h <;> first | (rw [eq_of_beq h]; done) | cases h
  | .str a, b, h => by cases b <;> simp only [D.beq] at h <;> first | (rw [eq_of_beq h]; done) | cases h
  | .scr a, b, h => by cases b <;> simp only [D.beq] at h <;> first | (rw [of_decide_eq_true h]; done) | cases h
  | .lst a, b, h => by cases b <;> simp only [D.beq] at h <;> first | (rw [D.beqs_eq h]; done) | cases h
  | .tup a, b, h => by cases b <;> simp only [D.beq] at h <;> first | (rw [D.beqs_eq h]; done) | cases h
  | .ktup a, b, h => by cases b <;> simp only [D.beq] at h <;> first | (rw [D.beqs_eq h]; done) | cases h
  | .dK a, b, h => by cases b <;> simp only [D.beq] at h <;> first | (rw [D.beqk_eq h]; done) | cases h
  | .dT a, b, h => by cases b <;> simp only [D.beq] at h <;> first | (rw [D.beqt_eq h]; done) | cases h
  | .ins x a, b, h => by
    cases b <;> simp only [D.beq] at h <;> first | (rw [Bool.and_eq_true] at h; rw [of_decide_eq_true h.1, D.beqf_eq h.2]; done) | cases h
  | .exc x a, b, h => by
    cases b <;> simp only [D.beq] at h <;> first | (rw [Bool.and_eq_true] at h; rw [of_decide_eq_true h.1, D.beqf_eq h.2]; done) | cases h
theorem D.beqs_eq : ∀ {a b : List D}, D.beqs a b = true → a = b
  | [], b, h => by cases b <;> first | rfl | (simp only [D.beqs] at h; cases h)
  | a :: as, b, h => by
    cases b with
    | nil => simp only [D.beqs] at h; cases h
    | cons b bs => simp only [D.beqs] at h; rw [Bool.and_eq_true] at h; rw [D.beq_eq h.1, D.beqs_eq h.2]
theorem D.beqk_eq : ∀ {a b : List (Key × D)}, D.beqk a b = true → a = b
  | [], b, h => by cases b <;> first | rfl | (simp only [D.beqk] at h; cases h)
  | (k, a) :: as, b, h => by
    cases b with
    | nil => simp only [D.beqk] at h; cases h
    | cons b bs => obtain ⟨l, b⟩ := b; simp only [D.beqk] at h; rw [Bool.and_eq_true, Bool.and_eq_true] at h; rw [of_decide_eq_true h.1.1, D.beq_eq h.1.2, D.beqk_eq h.2]
theorem D.beqt_eq : ∀ {a b : List (List Key × D)}, D.beqt a b = true → a = b
  | [], b, h => by cases b <;> first | rfl | (simp only [D.beqt] at h; cases h)
  | (k, a) :: as, b, h => by
    cases b with
    | nil => simp only [D.beqt] at h; cases h
    | cons b bs => obtain ⟨l, b⟩ := b; simp only [D.beqt] at h; rw [Bool.and_eq_true, Bool.and_eq_true] at h; rw [of_decide_eq_true h.1.1, D.beq_eq h.1.2, D.beqt_eq h.2]
theorem D.beqf_eq : ∀ {a b : List (Str × D)}, D.beqf a b = true → a = b
  | [], b, h => by cases b <;> first | rfl | (simp only [D.beqf] at h; cases h)
  | (k, a) :: as, b, h => by
    cases b with
    | nil => simp only [D.beqf] at h; cases h
    | cons b bs => obtain ⟨l, b⟩ := b; simp only [D.beqf] at h; rw [Bool.and_eq_true, Bool.and_eq_true] at h; rw [of_decide_eq_true h.1.1, D.beq_eq h.1.2, D.beqf_eq h.2]
end
mutual
theorem D.beq_refl : ∀ (a : D), D.beq a a = true
  | .non => by simp only [D.beq]
  | .bl a => by simp only [D.beq, beq_self_eq_true]
  | .int a => by simp only [D.beq, beq_self_eq_true]
  | .str a => by simp only [D.beq, beq_self_eq_true]
  | .scr a => by simp only [D.beq, decide_true]
  | .lst a => by simp only [D.beq, D.beqs_refl a]
  | .tup a => by simp only [D.beq, D.beqs_refl a]
  | .ktup a => by simp only [D.beq, D.beqs_refl a]
  | .dK a => by simp only [D.beq, D.beqk_refl a]
  | .dT a => by simp only [D.beq, D.beqt_refl a]
  | .ins x a => by simp only [D.beq, decide_true, D.beqf_refl a, Bool.and_self]
  | .exc x a => by simp only [D.beq, decide_true, D.beqf_refl a, Bool.and_self]
theorem D.beqs_refl : ∀ (a : List D), D.beqs a a = true
  | [] => by simp only [D.beqs]
  | a :: as => by simp only [D.beqs, D.beq_refl a, D.beqs_refl as, Bool.and_self]
theorem D.beqk_refl : ∀ (a : List (Key × D)), D.beqk a a = true
  | [] => by simp only [D.beqk]
  | (k, a) :: as => by simp only [D.beqk, decide_true, D.beq_refl a, D.beqk_refl as, Bool.and_self]
theorem D.beqt_refl : ∀ (a : List (List Key × D)), D.beqt a a = true
  | [] => by simp only [D.beqt]
  | (k, a) :: as => by simp only [D.beqt, decide_true, D.beq_refl a, D.beqt_refl as, Bool.and_self]
theorem D.beqf_refl : ∀ (a : List (Str × D)), D.beqf a a = true
  | [] => by simp only [D.beqf]
  | (k, a) :: as => by simp only [D.beqf, decide_true, D.beq_refl a, D.beqf_refl as, Bool.and_self]
end
abbrev Gd := Option (Nat × D)
def gOk (g : Gd) (ls : LS) : Bool := match g with
  | none => true
  | some (j, .ins _ [(_, d)]) => (match ls[j]? with
    | some (.own d') => D.beq d d'
    | _ => false)
  | some (j, d) => (match ls[j]? with
    | some (.par d') => D.beq d d'
    | _ => false)
theorem gOk_at {j : Nat} {ds : List D} {ls : LS} (h : gOk (some (j, .lst ds)) ls = true) : ls[j]? = some (.par (.lst ds)) := by
  have h : (match ls[j]? with
    | some (.par d') => D.beq (.lst ds) d'
    | _ => false) = true := h
  split at h
  · rename_i d' h1
    rw [D.beq_eq h]; exact h1
  · cases h
inductive RI where
  | ok (items : List D) (g : Gd) (ls : LS) | err (x : Exn) (ls : LS) | stk
abbrev IM := LS → RI
def RI.bind (r : RI) (f : List D → Gd → LS → S) : S := match r with
  | .ok items g ls => f items g ls
  | .err x ls => .err x ls
  | .stk => .stk
structure WalkD (G : Cfg) (J : It) (items : List D) (gvs : List V) (gks : List Slot) (gd : Gd) : Prop where
  go : ∀ (i : Nat) (d : D) F H σ ls vs ks, gOk gd ls = true → items[i]? = some d → Rp G F H σ ls (gvs ++ vs) (gks ++ ks) → J.go i H ∧ ∀ x H', J.yld i H x H' → ∃ F', Rp G F' H' σ ls (x :: (gvs ++ vs)) (.dat d :: (gks ++ ks))
  stop : ∀ F H σ ls vs ks, gOk gd ls = true → Rp G F H σ ls (gvs ++ vs) (gks ++ ks) → J.stop items.length H
def PostI (G : Cfg) (W : WX) (σ : L2.St) (vs : List V) (ks : List Slot) (r : RI) (C : It → Hp → Prop) : Prop := match r with
  | .ok items g ls' => ∀ J gvs gks F' H', gvs.length = gks.length → noAli gks → Rp G F' H' σ ls' (gvs ++ vs) (gks ++ ks) → WalkD G J items gvs gks g → C J H'
  | .err x ls' => ∀ cls d F' H', Rp G F' H' σ ls' vs ks → ErrRel G F' cls d x → W cls d σ H'
  | .stk => False
def tI (G : Cfg) (W : WX) (m : IM) : TI := fun σ H C => ∃ F ls vs ks, Rp G F H σ ls vs ks ∧ PostI G W σ vs ks (m ls) C
theorem PI.imp {X : Cx} {tg e : Expr} {t t' : TI} (h : L2.PI X tg e t) (hi : ∀ σ H C, t' σ H C → t σ H C) : L2.PI X tg e t' := ⟨fun pins s σ H R I q => h.run pins s σ H R I (hi σ H R q)⟩
def iSeq (K : PySem.W.Frag) (tl : TE) : TI := fun σ H R => tl σ H fun x H1 => (∃ a, x = .ref a ∧ (∃ xs, SqL K H1 a xs) ∧ R (Itl K a) H1) ∨ (∃ a, x = .ref a ∧ (∃ xs, SqT K H1 a xs) ∧ R (Itt K a) H1) ∨ ∃ y, x = .str y ∧ R (Its y) H1
def itemsD : D → Option (List D)
  | .lst ds => some ds
  | .tup ds => some ds
  | .ktup ds => some ds
  | .str y => some (y.cps.toList.map fun c => .str ⟨#[c]⟩)
  | _ => none
def live (k : Slot) (ls : LS) : Option (Nat × List D) := match k with
  | .ali j => (match ls[j]? with
    | some (.par (.lst ds)) => some (j, ds)
    | _ => none)
  | _ => none
theorem live_at {k : Slot} {ls : LS} {j : Nat} {ds : List D} (h : live k ls = some (j, ds)) : k = .ali j ∧ ls[j]? = some (.par (.lst ds)) := by
  unfold live at h
  split at h
  · split at h
    · rename_i e; cases h; exact ⟨rfl, e⟩
    · cases h
  · cases h
def seqI (m : M) : IM := fun ls => match m ls with
  | .ok k ls => (match live k ls with
    | some (j, ds) => .ok ds (some (j, .lst ds)) ls
    | none => (match freezeK k ls with
      | some (d, ls) => (match itemsD d with
        | some ds => .ok ds none ls
        | none => .stk)
      | none => .stk))
  | .err x ls => .err x ls
  | .stk => .stk
theorem noAli_one {d : D} : noAli [Slot.dat d] := fun i hm => by
  rw [List.mem_singleton] at hm
  cases hm
theorem par_at {G : Cfg} {F H : Hp} {σ : L2.St} {ls : LS} {vs : List V} {ks : List Slot} {a : Addr} {ds : List D} {j : Nat} (hP : G.B.P j = some (some (.ref a))) (hg : gOk (some (j, .lst ds)) ls = true) (R : Rp G F H σ ls vs ks) : ∃ xs, H a = some (.lst xs) ∧ DDs G.K G.mg F ds xs := by
  have h1 := gOk_at hg
  obtain ⟨v, p1, p2⟩ := R.pin j _ (.inl h1)
  rw [hP] at p1; cases p1
  obtain ⟨w, h2, q, e, o⟩ := R.loc h1
  rw [p2] at h2; cases h2; cases e
  obtain ⟨_, _, o', h3, h4⟩ := o
  cases o' <;> first | exact h4.elim | exact ⟨_, h3, h4⟩
theorem par_top {G : Cfg} {F H : Hp} {σ : L2.St} {ls : LS} {vs : List V} {ks : List Slot} {v : V} {ds : List D} {j : Nat} (R : Rp G F H σ ls (v :: vs) (.ali j :: ks)) (h : ls[j]? = some (.par (.lst ds))) : ∃ a xs, v = .ref a ∧ G.B.P j = some (some (.ref a)) ∧ H a = some (.lst xs) := by
  obtain ⟨s, a1, a2, a3⟩ := R.al v j List.mem_cons_self
  obtain ⟨u, p1, p2⟩ := R.pin j _ (.inl h)
  rw [a1] at p2; cases p2
  obtain ⟨w, h2, q, e, o⟩ := R.loc h
  rw [a1] at h2; cases h2; cases e
  obtain ⟨_, _, o', h3, h4⟩ := o
  cases o' <;> first | exact h4.elim | exact ⟨_, _, rfl, p1, h3⟩
def rangeD (lo : Int) (n : Nat) : List D := (List.range n).map fun i => .int (lo + (i : Nat))
theorem walk_range {G : Cfg} {lo : Int} {n : Nat} : WalkD G (Itr lo n) (rangeD lo n) [] [] none := by
  refine ⟨fun i d F H σ ls vs ks _ hi R => ?_, fun F H σ ls vs ks _ R => ?_⟩
  · unfold rangeD at hi
    rw [List.getElem?_map] at hi
    cases e : (List.range n)[i]? with
    | none => rw [e] at hi; cases hi
    | some j =>
      rw [e] at hi
      cases hi
      obtain ⟨h1, h2⟩ := List.getElem?_eq_some_iff.mp e
      rw [List.getElem_range] at h2
      subst h2
      rw [List.length_range] at h1
      refine ⟨h1, fun x H' hy => ?_⟩
      obtain ⟨rfl, hy⟩ := hy
      subst hy
      exact ⟨F, R.pushDat (.int _)⟩
  · show n ≤ _
    simp [rangeD]
def inR (j : Int) : Bool := decide (-(2 ^ 62) ≤ j ∧ j < 2 ^ 62)
def rng1 (am : AM) : IM := fun ls => match am ls with
  | .ok as ls => (match as with
    | [.dat (.int j)] => if inR j then .ok (rangeD 0 j.toNat) none ls else .stk
    | _ => .stk)
  | .err x ls => .err x ls
  | .stk => .stk
def rng2 (am : AM) : IM := fun ls => match am ls with
  | .ok as ls => (match as with
    | [.dat (.int i), .dat (.int j)] => if inR i && inR j then .ok (rangeD i (j - i).toNat) none ls else .stk
    | _ => .stk)
  | .err x ls => .err x ls
  | .stk => .stk
theorem noAli_nil : noAli [] := fun i hm => by simp at hm
theorem i_range1 {p : Pos} (ha : L2.PA X [a] (tA (cfg X B) W am)) (hg : Gl X "range" := by rfl) (hm : X.mg "range" = none := by rfl) (hs : starEach [a] X.env = [(false, eval a X.env)] := by rfl) :
    L2.PI X tgt (.Call (.Name "range" p) [a] [] pos) (tI (cfg X B) W (rng1 am)) := PI.imp (pi_range1 hg hm ha hs) fun σ H C h => by
  obtain ⟨F, ls, vs, ks, R, po⟩ := h
  refine ⟨F, ls, vs, ks, R, ?_⟩
  cases e1 : am ls with
  | ok as ls1 =>
    simp only [rng1, e1] at po
    intro ws F1 H1 hl R1
    split at po
    · rename_i j
      split at po
      · rename_i hj
        have hj := of_decide_eq_true hj
        match ws, hl with
        | [w], _ =>
          have : w = .int j := Vw.int R1.ex (R1.view0 rfl)
          subst this
          exact ⟨j, rfl, hj.1, hj.2, po _ [] [] F1 H1 rfl noAli_nil R1.pop walk_range⟩
      · exact po.elim
    · exact po.elim
  | err x ls1 => simp only [rng1, e1] at po; exact po
  | stk => simp only [rng1, e1, PostI] at po
def enumD (ds : List D) : List D := ds.mapIdx fun i d => .tup [.int (i : Nat), d]
theorem walk_enum {G : Cfg} {a : Addr} {ds : List D} : WalkD G (Ite G.K a) (enumD ds) [.ref a] [.dat (.lst ds)] none := by
  have key : ∀ {F H σ ls vs ks}, Rp G F H σ ls ([V.ref a] ++ vs) ([Slot.dat (.lst ds)] ++ ks) → ∃ xs, F a = some (.lst xs) ∧ DDs G.K G.mg F ds xs := fun R => by
    obtain ⟨x, ex, dd⟩ := R.good.head
    cases ex
    cases dd with | lst f q => exact ⟨_, f, q⟩
  refine ⟨fun i d F H σ ls vs ks _ hi R => ?_, fun F H σ ls vs ks _ R => ?_⟩
  · obtain ⟨xs, f, q⟩ := key R
    unfold enumD at hi
    rw [List.getElem?_mapIdx] at hi
    cases e : ds[i]? with
    | none => rw [e] at hi; cases hi
    | some d0 =>
      rw [e] at hi
      cases hi
      obtain ⟨x, hx, dx⟩ := q.get e
      refine ⟨⟨xs, x, SqL.of (R.ex _ _ f), hx⟩, fun y H' hy => ?_⟩
      obtain ⟨T, x', rfl, hT, rfl, hy⟩ := hy
      have := hy xs (SqL.of (R.ex _ _ f))
      rw [hx] at this; cases this
      exact ⟨_, R.pushTup hT (.cons (.int _) (.cons dx .nil))⟩
  · obtain ⟨xs, f, q⟩ := key R
    exact ⟨xs, SqL.of (R.ex _ _ f), by rw [enumD, List.length_mapIdx, q.length]; exact Nat.le_refl _⟩
theorem walk_enumP {G : Cfg} {a : Addr} {ds : List D} {j : Nat} (hP : G.B.P j = some (some (.ref a))) : WalkD G (Ite G.K a) (enumD ds) [] [] (some (j, .lst ds)) := by
  refine ⟨fun i d F H σ ls vs ks hg hi R => ?_, fun F H σ ls vs ks hg R => ?_⟩
  · obtain ⟨xs, f, q⟩ := par_at hP hg R
    unfold enumD at hi
    rw [List.getElem?_mapIdx] at hi
    cases e : ds[i]? with
    | none => rw [e] at hi; cases hi
    | some d0 =>
      rw [e] at hi
      cases hi
      obtain ⟨x, hx, dx⟩ := q.get e
      refine ⟨⟨xs, x, SqL.of f, hx⟩, fun y H' hy => ?_⟩
      obtain ⟨T, x', rfl, hT, rfl, hy⟩ := hy
      have := hy xs (SqL.of f)
      rw [hx] at this; cases this
      exact ⟨_, R.pushTup hT (.cons (.int _) (.cons dx .nil))⟩
  · obtain ⟨xs, f, q⟩ := par_at hP hg R
    exact ⟨xs, SqL.of f, by rw [enumD, List.length_mapIdx, q.length]; exact Nat.le_refl _⟩
def enumM (am : AM) : IM := fun ls => match am ls with
  | .ok as ls => (match as with
    | [k] => (match live k ls with
      | some (j, ds) => .ok (enumD ds) (some (j, .lst ds)) ls
      | none => (match freezeK k ls with
        | some (.lst ds, ls) => .ok (enumD ds) none ls
        | _ => .stk))
    | _ => .stk)
  | .err x ls => .err x ls
  | .stk => .stk
theorem i_enum {p tpos : Pos} {elts : List Expr} {kk : Nat} (ha : L2.PA X [e] (tA (cfg X B) W am)) (hg : Gl X "enumerate" := by rfl) (hm : X.mg "enumerate" = none := by rfl) (hs : starEach [e] X.env = [(false, eval e X.env)] := by rfl) :
    L2.PI X (.Tuple elts kk tpos) (.Call (.Name "enumerate" p) [e] [] pos) (tI (cfg X B) W (enumM am)) := PI.imp (pi_enum hg hm ha hs) fun σ H C h => by
  obtain ⟨F, ls, vs, ks, R, po⟩ := h
  refine ⟨F, ls, vs, ks, R, ?_⟩
  cases e1 : am ls with
  | ok as ls1 =>
    simp only [enumM, e1] at po
    intro ws F1 H1 hl R1
    split at po
    · rename_i k
      split at po
      · rename_i j ds e0
        match ws, hl with
        | [w], _ =>
          obtain ⟨rfl, hj⟩ := live_at e0
          obtain ⟨a, xs, rfl, hP, ha⟩ := par_top (vs := vs) (ks := ks) R1 hj
          exact ⟨_, _, rfl, SqL.of ha, po _ [] [] F1 H1 rfl noAli_nil (Rp.pop (vs := vs) (ks := ks) R1) (walk_enumP hP)⟩
      split at po
      · rename_i ds ls2 hf
        match ws, hl with
        | [w], _ =>
          obtain ⟨F2, _, R2⟩ := Rp.freezeK (vs := vs) (ks := ks) R1 hf
          obtain ⟨x, ex, dd⟩ := R2.good.head
          cases ex
          cases dd with
          | lst f q => exact ⟨_, _, rfl, SqL.of (R2.ex _ _ f), po _ [.ref _] [.dat (.lst ds)] F2 H1 rfl noAli_one R2 walk_enum⟩
      · exact po.elim
    · exact po.elim
  | err x ls1 => simp only [enumM, e1] at po; exact po
  | stk => simp only [enumM, e1, PostI] at po
end
def forL (g : Gd) (tg : TgM) (body : SM) : List D → LS → S
  | [], ls => if gOk g ls = true then .nx ls else .stk
  | d :: ds, ls => if gOk g ls = true then (match tg d ls with
    | some ls1 => (match body ls1 with
      | .nx ls2 => forL g tg body ds ls2
      | .cnt ls2 => forL g tg body ds ls2
      | .brk ls2 => .nx ls2
      | .ret k ls2 => .ret k ls2
      | .err x ls2 => .err x ls2
      | .stk => .stk)
    | none => .stk) else .stk
def forM (src : IM) (tg : TgM) (body : SM) : SM := fun ls => (src ls).bind fun items g ls => forL g tg body items ls
section
variable {G : Cfg} {F F' H H' : Hp} {σ σ' : L2.St} {ls ls' : LS} {vs ws : List V} {ks as : List Slot} {v : V} {k : Slot} {d : D} {W : WX}
theorem Rp.unrot (hl : ws.length = as.length) (R : Rp G F H σ ls (v :: (ws ++ vs)) (k :: (as ++ ks))) : Rp G F H σ ls (ws ++ v :: vs) (as ++ k :: ks) := by
  have z : ∀ {α : Type} (f : V → α), ((ws ++ v :: vs).map f).zip (as ++ k :: ks) = (ws.map f).zip as ++ (f v, k) :: (vs.map f).zip ks := fun f => by
    rw [List.map_append, List.zip_append (by simp [hl])]; rfl
  have z' : ∀ {α : Type} (f : V → α), ((v :: (ws ++ vs)).map f).zip (k :: (as ++ ks)) = (f v, k) :: ((ws.map f).zip as ++ (vs.map f).zip ks) := fun f => by
    rw [List.map_cons, List.zip_cons_cons, List.map_append, List.zip_append (by simp [hl])]
  have kl := R.klen
  refine ⟨R.ex, R.ex0, R.len, by simp at kl ⊢; omega, ?_, fun w i' hj => ?_, R.pin, R.b1, R.b2, R.b3⟩
  · refine R.good.perm ?_
    unfold ent
    rw [z some, z' some, List.append_assoc]
    rw [List.cons_append, List.cons_append, List.append_assoc]
    exact List.perm_middle.symm
  · refine R.al w i' ?_
    have h1 := z id
    have h2 := z' id
    simp only [List.map_id] at h1 h2
    rw [h1] at hj
    rw [h2]
    simp only [List.mem_cons, List.mem_append] at hj ⊢
    rcases hj with q | q | q
    · exact .inr (.inl q)
    · exact .inl q
    · exact .inr (.inr q)
theorem Rp.dropN (hl : ws.length = as.length) (R : Rp G F H σ ls (v :: (ws ++ vs)) (k :: (as ++ ks))) : Rp G F H σ ls (v :: vs) (k :: ks) := Rp.popN as ws hl (R.unrot hl)
theorem noAli_app {a b : List Slot} (h1 : noAli a) (h2 : noAli b) : noAli (a ++ b) := fun i hm => (List.mem_append.mp hm).elim (h1 i) (h2 i)
end
section
variable {X : Cx} {B : Base} {W : WX} {e a b c : Expr} {es : List Expr} {m ma mb : M} {am : AM} {i n : Nat} {pos : Pos} {t : TgM} {is : List Nat} {tgt : Expr} {sts : List Stmt} {sa sb : SM} {im : IM}
theorem imp_for {D : Ends} {σ : L2.St} {H : Hp} (h : tS (cfg X B) W (forM im t sa) D σ H) : tFor (tI (cfg X B) W im) (tG (cfg X B) t is) (tS (cfg X B) W sa) D σ H := by
  obtain ⟨F, ls, vs, ks, na, R, po⟩ := h
  refine ⟨F, ls, vs, ks, R, ?_⟩
  cases e1 : im ls with
  | stk => simp only [forM, e1, RI.bind, PostS] at po
  | err x ls1 =>
    simp only [forM, e1, RI.bind] at po
    exact fun cls d F' H' r' er => po cls d σ F' H' r' er
  | ok items gd ls1 =>
    simp only [forM, e1, RI.bind] at po
    intro J gvs gks F1 H1 gl gna R1 wk
    have na' : noAli (gks ++ ks) := noAli_app gna na
    refine ⟨fun i m σ H => m = items.length - i ∧ i ≤ items.length ∧ ∃ F ls, Rp (cfg X B) F H σ ls (gvs ++ vs) (gks ++ ks) ∧ PostS (cfg X B) W vs ks (forL gd t sa (items.drop i) ls) D, ⟨_, rfl, Nat.zero_le _, F1, ls1, R1, po⟩, ?_⟩
    rintro i m σ2 H2 ⟨rfl, hi2, F2, ls2, R2, po2⟩
    by_cases hlt : i < items.length
    · refine .inr ?_
      have hd : items.drop i = items[i] :: items.drop (i + 1) := List.drop_eq_getElem_cons hlt
      rw [hd] at po2
      have hg : gOk gd ls2 = true := by
        cases q : gOk gd ls2 with
        | true => rfl
        | false => simp only [forL, q, PostS] at po2; exact po2.elim
      simp only [forL, hg, if_true] at po2
      obtain ⟨go, step⟩ := wk.go i items[i] F2 H2 σ2 ls2 vs ks hg (List.getElem?_eq_getElem hlt) R2
      refine ⟨go, fun σ' H' => ∃ F ls, Rp (cfg X B) F H' σ' ls (gvs ++ vs) (gks ++ ks) ∧ PostS (cfg X B) W vs ks (forL gd t sa (items.drop (i + 1)) ls) D, fun σ' H' ⟨F', ls', R', p'⟩ => ⟨items.length - (i + 1), by omega, rfl, hlt, F', ls', R', p'⟩, fun x H3 hy => ?_⟩
      obtain ⟨F3, R3⟩ := step x H3 hy
      refine ⟨F3, ls2, gvs ++ vs, gks ++ ks, items[i], fun i _ => na' i, R3, ?_⟩
      cases e2 : t items[i] ls2 with
      | none => simp only [e2, PostS] at po2
      | some ls3 =>
        simp only [e2] at po2
        intro σ4 F4 H4 R4 _
        refine ⟨F4, ls3, gvs ++ vs, gks ++ ks, na', R4, ?_⟩
        cases e3 : sa ls3 with
        | nx ls5 =>
          simp only [e3] at po2
          exact fun σ5 F5 H5 R5 => ⟨F5, ls5, R5, po2⟩
        | cnt ls5 =>
          simp only [e3] at po2
          exact fun σ5 F5 H5 R5 => ⟨F5, ls5, R5, po2⟩
        | brk ls5 =>
          simp only [e3] at po2
          exact fun σ5 F5 H5 R5 => po2 σ5 F5 H5 (Rp.popN gks gvs gl R5)
        | ret kk ls5 =>
          simp only [e3] at po2
          exact fun v σ5 F5 H5 R5 => po2 v σ5 F5 H5 (R5.dropN gl)
        | err x ls5 =>
          simp only [e3] at po2
          exact fun cls d σ5 F5 H5 R5 er => po2 cls d σ5 F5 H5 (Rp.popN gks gvs gl R5) er
        | stk => simp only [e3, PostS] at po2
    · have e0 : i = items.length := by omega
      subst e0
      rw [List.drop_length] at po2
      have hg : gOk gd ls2 = true := by
        cases q : gOk gd ls2 with
        | true => rfl
        | false => simp only [forL, q, PostS] at po2; exact po2.elim
      simp only [forL, hg, if_true] at po2
      exact .inl ⟨wk.stop F2 H2 σ2 ls2 vs ks hg R2, po2 σ2 F2 H2 (Rp.popN gks gvs gl R2)⟩
theorem s_for (hp : PassesOwn (model X.prog X.w) X.A X.env X.xe) (hc : X.calm = true) (hi : L2.PI X tgt e (tI (cfg X B) W im)) (hg : L2.PG X tgt (tG (cfg X B) t is)) (hb : L2.PSs X sts (tS (cfg X B) W sa))
    (hs : ∀ x, foldedSetIterable e X.env x = pure x := by intro _; rfl) : L2.PS X (.For tgt e sts [] pos) (tS (cfg X B) W (forM im t sa)) := PS.imp (ps_for hp hc hi hg hb hs) fun D σ H h => imp_for h
def whileL (c : M) (b : SM) : Nat → LS → S
  | 0, _ => .stk
  | n + 1, ls => match c ls with
    | .ok (.dat (.bl true)) ls1 => (match b ls1 with
      | .nx ls2 => whileL c b n ls2
      | .cnt ls2 => whileL c b n ls2
      | .brk ls2 => .nx ls2
      | .ret k ls2 => .ret k ls2
      | .err x ls2 => .err x ls2
      | .stk => .stk)
    | .ok (.dat (.bl false)) ls1 => .nx ls1
    | .err x ls1 => .err x ls1
    | _ => .stk
open Classical in
noncomputable def whileM (c : M) (b : SM) : SM := fun ls => if h : ∃ n, whileL c b n ls ≠ .stk then whileL c b (Classical.choose h) ls else .stk
end
def wipeL (ls : LS) : List Nat → LS
  | [] => ls
  | v :: vs => (wipeL ls vs).set v .emp
def empAt (ls : LS) : List Nat → Bool
  | [] => true
  | v :: vs => (match ls[v]? with
    | some .emp => true
    | none => true
    | _ => false) && empAt ls vs
theorem wipeL_at {ls : LS} {i : Nat} : ∀ {vs : List Nat}, ((wipeL ls vs)[i]? = ls[i]? ∧ i ∉ vs) ∨ (i ∈ vs ∧ ((wipeL ls vs)[i]? = some .emp ∨ (wipeL ls vs)[i]? = none))
  | [] => .inl ⟨rfl, by simp⟩
  | v :: vs => by
    unfold wipeL
    by_cases h : i = v
    · subst h
      refine .inr ⟨List.mem_cons_self, ?_⟩
      rw [List.getElem?_set]
      simp only [if_true]
      split
      · exact .inl rfl
      · exact .inr rfl
    · rw [List.getElem?_set_ne (Ne.symm h)]
      rcases wipeL_at (ls := ls) (i := i) (vs := vs) with ⟨a, b⟩ | ⟨a, b⟩
      · exact .inl ⟨a, by simp [h, b]⟩
      · exact .inr ⟨List.mem_cons_of_mem _ a, b⟩
theorem empAt_at {ls : LS} {i : Nat} : ∀ {vs : List Nat}, empAt ls vs = true → i ∈ vs → ls[i]? = some .emp ∨ ls[i]? = none
  | [], _, hi => by simp at hi
  | v :: vs, h, hi => by
    unfold empAt at h
    rw [Bool.and_eq_true] at h
    rcases List.mem_cons.mp hi with z | z
    · subst z
      have h1 := h.1
      split at h1
      · rename_i h0; exact .inl h0
      · rename_i h0; exact .inr h0
      · cases h1
    · exact empAt_at h.2 z
theorem empAt_wipe {ls : LS} {us : List Nat} : ∀ {vs : List Nat}, (∀ i ∈ vs, i ∈ us) → empAt (wipeL ls us) vs = true
  | [], _ => rfl
  | v :: vs, h => by
    unfold empAt
    rw [empAt_wipe fun i hi => h i (List.mem_cons_of_mem _ hi), Bool.and_true]
    rcases wipeL_at (ls := ls) (i := v) (vs := us) with ⟨_, b⟩ | ⟨_, b | b⟩
    · exact absurd (h v List.mem_cons_self) b
    · rw [b]
    · rw [b]
section
variable {G : Cfg} {F F' H H' : Hp} {σ σ' : L2.St} {ls ls' : LS} {vs ws : List V} {ks as : List Slot} {v : V} {k : Slot} {d : D} {W : WX} {own : List Nat}
theorem Rp.agree (R : Rp G F H σ' ls vs ks) (ag : Agree own σ' σ) (he : empAt ls own = true) : Rp G F H σ ls vs ks := by
  have same : ∀ {i : Nat} {s : Slot}, ls[i]? = some s → s ≠ .emp → σ'[i]? = σ[i]? := fun {i s} h hs => ag.2 i fun hm => by
    rcases empAt_at he hm with z | z
    · rw [h] at z; cases z; exact hs rfl
    · rw [h] at z; cases z
  have look : ∀ {n : Nat} {e : Ent}, (ent vs ks σ ls)[n]? = some e → (ent vs ks σ' ls)[n]? = some e ∨ e.2 = .emp := fun {n e} h => by
    by_cases hn : n < vs.length
    · left
      unfold ent at h ⊢
      have hl : n < ((vs.map some).zip ks).length := by simp [R.klen] at hn ⊢; exact hn
      rw [List.getElem?_append_left hl] at h ⊢
      exact h
    · obtain ⟨j, rfl⟩ : ∃ j, n = vs.length + j := ⟨n - vs.length, by omega⟩
      rw [ent_loc R.klen] at h
      obtain ⟨u, s⟩ := e
      rw [List.getElem?_zip_eq_some] at h
      by_cases hs : s = .emp
      · exact .inr hs
      · left
        rw [ent_loc R.klen]
        exact zip_at (by rw [same h.2 hs]; exact h.1) h.2
  refine ⟨R.ex, R.ex0, by rw [← ag.1]; exact R.len, R.klen, ⟨fun n e h => ?_, fun m n e e' p h1 h2 o1 o2 => ?_⟩, fun w i h => ?_, fun i d h => ?_, R.b1, R.b2, R.b3⟩
  · rcases look h with z | z
    · exact R.good.all n e z
    · obtain ⟨u, s⟩ := e
      have z : s = .emp := z
      subst z; trivial
  · have ne : ∀ {e : Ent}, p ∈ adE H e → e.2 ≠ .emp := fun {e} o z => by
      obtain ⟨u, s⟩ := e
      have z : s = .emp := z
      subst z
      cases o
    rcases look h1 with z1 | z1
    · rcases look h2 with z2 | z2
      · exact R.good.nd m n e e' p z1 z2 o1 o2
      · exact absurd z2 (ne o2)
    · exact absurd z1 (ne o1)
  · obtain ⟨s, a1, a2, a3⟩ := R.al w i h
    exact ⟨s, by rw [← same a2 (fun z => by rw [z] at a3; cases a3)]; exact a1, a2, a3⟩
  · obtain ⟨u, a1, a2⟩ := R.pin i d h
    refine ⟨u, a1, ?_⟩
    rcases h with h | h | h | ⟨t, h⟩
    · rw [← same h (fun z => by cases z)]; exact a2
    · rw [← same h (fun z => by cases z)]; exact a2
    · rw [← same h (fun z => by cases z)]; exact a2
    · rw [← same h (fun z => by cases z)]; exact a2
theorem wipe_agree {σ : L2.St} : ∀ {vs : List Nat}, Agree vs (wipe σ vs) σ := fun {vs} => ⟨wipe_length σ vs, fun i hi => wipe_out hi⟩
theorem Agree.symm {is : List Nat} {σ σ' : L2.St} (a : Agree is σ' σ) : Agree is σ σ' := ⟨a.1.symm, fun i hi => (a.2 i hi).symm⟩
theorem Agree.mono {is js : List Nat} {σ σ' : L2.St} (a : Agree is σ' σ) (h : ∀ i ∈ is, i ∈ js) : Agree js σ' σ := ⟨a.1, fun i hi => a.2 i fun z => hi (h i z)⟩
theorem wipe_in {σ : L2.St} {i : Nat} : ∀ {vs : List Nat}, i ∈ vs → (wipe σ vs)[i]? = if i < σ.length then some none else none
  | [], h => by simp at h
  | v :: vs, h => by
    unfold wipe
    by_cases hi : v = i
    · subst hi
      rw [List.getElem?_set]
      simp only [if_true, wipe_length]
    · rw [List.getElem?_set_ne hi]
      exact wipe_in ((List.mem_cons.mp h).resolve_left (Ne.symm hi))
theorem wipe_of_agree {σ σ' : L2.St} {vs : List Nat} (a : Agree vs σ' σ) : wipe σ' vs = wipe σ vs := by
  refine List.ext_getElem? fun i => ?_
  by_cases hi : i ∈ vs
  · rw [wipe_in hi, wipe_in hi, a.1]
  · rw [wipe_out hi, wipe_out hi]; exact a.2 i hi
theorem Rp.forget (R : Rp G F H σ ls vs ks) {i : Nat} (hn : Slot.ali i ∉ ks) : Rp G F H σ (ls.set i .emp) vs ks := by
  by_cases hi : i < ls.length
  · obtain ⟨v, hv⟩ : ∃ v, σ[i]? = some v := ⟨_, List.getElem?_eq_getElem (by rw [R.len]; exact hi)⟩
    refine ⟨R.ex, R.ex0, by simp [R.len], R.klen, ?_, fun w i' hj => ?_, fun i' d h => ?_, R.b1, R.b2, R.b3⟩
    · rw [ent_setl R.klen hv]
      exact R.good.set trivial fun q hq => by cases hq
    · obtain ⟨s, a1, a2, a3⟩ := R.al w i' hj
      have hne : i ≠ i' := fun z => hn (by rw [z]; exact (List.of_mem_zip hj).2)
      exact ⟨s, a1, by rw [List.getElem?_set_ne hne]; exact a2, a3⟩
    · by_cases hh : i = i'
      · subst hh
        rw [List.getElem?_set_self hi] at h
        rcases h with z | z | z | ⟨t, z⟩ <;> cases z
      · rw [List.getElem?_set_ne hh] at h
        exact R.pin i' d h
  · rw [List.set_eq_of_length_le (by omega)]; exact R
theorem Rp.forgetL (R : Rp G F H σ ls vs ks) : ∀ {own : List Nat}, (∀ i ∈ own, Slot.ali i ∉ ks) → Rp G F H σ (wipeL ls own) vs ks
  | [], _ => R
  | v :: own, h => (Rp.forgetL R fun i hi => h i (List.mem_cons_of_mem _ hi)).forget (h v List.mem_cons_self)
theorem Rp.noAliEmp (R : Rp G F H σ ls vs ks) (he : empAt ls own = true) : ∀ i ∈ own, Slot.ali i ∉ ks := fun i hi hm => by
  obtain ⟨j, hj⟩ := List.getElem?_of_mem hm
  have hl : j < vs.length := by rw [R.klen]; exact (List.getElem?_eq_some_iff.mp hj).1
  obtain ⟨s, a1, a2, a3⟩ := R.al vs[j] i (List.mem_of_getElem? (i := j) (by rw [List.getElem?_zip_eq_some]; exact ⟨List.getElem?_eq_getElem hl, hj⟩))
  rcases empAt_at he hi with z | z
  · rw [a2] at z; cases z; cases a3
  · rw [a2] at z; cases z
end
def lcL (own : List Nat) (g : Gd) (tg : TgM) (t e : M) : List D → LS → List D → R
  | [], ls, acc => if gOk g ls = true then .ok (.own (.lst acc)) ls else .stk
  | d :: ds, ls, acc => if gOk g ls = true then (match tg d ls with
    | some ls1 => (match t ls1 with
      | .ok (.dat (.bl true)) ls2 => (match e ls2 with
        | .ok k ls3 => (match freezeK k ls3 with
          | some (y, ls4) => if acc.length < 1000000 then lcL own g tg t e ds (wipeL ls4 own) (acc ++ [y]) else .stk
          | none => .stk)
        | _ => .stk)
      | .ok (.dat (.bl false)) ls2 => lcL own g tg t e ds (wipeL ls2 own) acc
      | _ => .stk)
    | none => .stk) else .stk
def lcM (own : List Nat) (src : IM) (tg : TgM) (t e : M) : M := fun ls => match src ls with
  | .ok items g ls => if empAt ls own then lcL own g tg t e items ls [] else .stk
  | .err x ls => .err x ls
  | .stk => .stk
abbrev WF : WX := fun _ _ _ _ => False
section
variable {X : Cx} {B : Base} {W : WX} {im : IM} {t : TgM} {mt me : M} {own is : List Nat}
theorem top2 {G : Cfg} {F H : Hp} {σ : L2.St} {ls : LS} {vs : List V} {ks : List Slot} {v : V} {k : Slot} {p : Addr} {acc : List D} (R : Rp G F H σ ls (v :: .ref p :: vs) (k :: .own (.lst acc) :: ks)) : ∃ xs, H p = some (.lst xs) ∧ DDs G.K G.mg F acc xs := by
  obtain ⟨q, e, o⟩ := R.pop.good.head
  cases e
  obtain ⟨_, _, o', h1, h2⟩ := o
  cases o' <;> first | exact h2.elim | exact ⟨_, h1, h2⟩
theorem DDs.snoc {K : PySem.W.Frag} {mg : Str → Option Value} {F : Hp} : ∀ {ds : List D} {xs : List V} {d : D} {x : V}, DDs K mg F ds xs → DD K mg F d x → DDs K mg F (ds ++ [d]) (xs ++ [x])
  | _, _, _, _, .nil, h => .cons h .nil
  | _, _, _, _, .cons a r, h => .cons a (DDs.snoc r h)
theorem imp_lc {G : Cfg} {tt : TT} {te : TE} (his : ∀ i ∈ is, i ∈ own) (htt : ∀ σ H Q, tT G WF mt σ H Q → tt σ H Q) (hte : ∀ σ H Q, tM G WF me σ H Q → te σ H Q) {σ : L2.St} {H : Hp} {Q : VK} (h : tM G W (lcM own im t mt me) σ H Q) : tLc (tI G W im) (tG G t is) tt te own σ H Q := by
  obtain ⟨F, ls, vs, ks, R, po⟩ := h
  refine ⟨F, ls, vs, ks, R, ?_⟩
  cases e1 : im ls with
  | stk => simp only [lcM, e1, PostM] at po
  | err x ls1 => simp only [lcM, e1] at po; exact po
  | ok items gd ls1 =>
    simp only [lcM, e1] at po
    split at po
    · rename_i hem
      intro J gvs gks F1 H1 gl gna R1 wk Ad hD
      refine ⟨fun i m H => m = items.length - i ∧ i ≤ items.length ∧ ∃ F ls acc, empAt ls own = true ∧ Rp G F H (wipe σ own) ls (.ref Ad :: (gvs ++ vs)) (.own (.lst acc) :: (gks ++ ks)) ∧ PostM G W σ vs ks (lcL own gd t mt me (items.drop i) ls acc) Q, ⟨_, rfl, Nat.zero_le _, F1, ls1, [], hem, ?_, po⟩, ?_⟩
      · exact (R1.agree wipe_agree.symm hem).pushOwn hD (d := .lst []) .nil
      · rintro i m H2 ⟨rfl, hi2, F2, ls2, acc, hem2, R2, po2⟩
        by_cases hlt : i < items.length
        · refine .inr ?_
          have hd : items.drop i = items[i] :: items.drop (i + 1) := List.drop_eq_getElem_cons hlt
          rw [hd] at po2
          have R2' : Rp G F2 H2 (wipe σ own) ls2 (gvs ++ .ref Ad :: vs) (gks ++ .own (.lst acc) :: ks) := R2.unrot gl
          have hg : gOk gd ls2 = true := by
            cases q : gOk gd ls2 with
            | true => rfl
            | false => simp only [lcL, q, PostM] at po2; exact po2.elim
          simp only [lcL, hg, if_true] at po2
          obtain ⟨go, step⟩ := wk.go i items[i] F2 H2 _ ls2 (.ref Ad :: vs) (.own (.lst acc) :: ks) hg (List.getElem?_eq_getElem hlt) R2'
          refine ⟨go, fun H' => ∃ F ls acc, empAt ls own = true ∧ Rp G F H' (wipe σ own) ls (.ref Ad :: (gvs ++ vs)) (.own (.lst acc) :: (gks ++ ks)) ∧ PostM G W σ vs ks (lcL own gd t mt me (items.drop (i + 1)) ls acc) Q, fun H' ⟨F', ls', a', h', R', p'⟩ => ⟨items.length - (i + 1), by omega, rfl, hlt, F', ls', a', h', R', p'⟩, fun x H3 hy => ?_⟩
          obtain ⟨F3, R3⟩ := step x H3 hy
          -- the new list next to the top
          have R3' : Rp G F3 H3 (wipe σ own) ls2 (x :: .ref Ad :: (gvs ++ vs)) (.dat items[i] :: .own (.lst acc) :: (gks ++ ks)) := by
            have z : Rp G F3 H3 (wipe σ own) ls2 ((x :: gvs) ++ .ref Ad :: vs) ((.dat items[i] :: gks) ++ .own (.lst acc) :: ks) := R3
            have z2 := z.rot (by simp [gl])
            have z3 : Rp G F3 H3 (wipe σ own) ls2 (.ref Ad :: ([x] ++ (gvs ++ vs))) (.own (.lst acc) :: ([.dat items[i]] ++ (gks ++ ks))) := z2
            exact z3.unrot rfl
          have nal := R3'.pop.noAliEmp hem2
          refine ⟨F3, ls2, .ref Ad :: (gvs ++ vs), .own (.lst acc) :: (gks ++ ks), items[i], fun i hi => nal i (his i hi), R3', ?_⟩
          cases e2 : t items[i] ls2 with
          | none => simp only [e2, PostM] at po2
          | some ls3 =>
            simp only [e2] at po2
            intro σ4 F4 H4 R4 ag
            have ag' : Agree own σ4 (wipe σ own) := ag.mono his
            have back : ∀ {F5 H5 : Hp} {ls5 : LS} {a5 : List D}, Rp G F5 H5 σ4 ls5 (.ref Ad :: (gvs ++ vs)) (.own (.lst a5) :: (gks ++ ks)) → Rp G F5 H5 (wipe σ own) (wipeL ls5 own) (.ref Ad :: (gvs ++ vs)) (.own (.lst a5) :: (gks ++ ks)) := fun {F5 H5 ls5 a5} R5 => by
              refine (R5.forgetL fun i hi hm => ?_).agree ag' (empAt_wipe fun i hi => hi)
              rcases List.mem_cons.mp hm with z | z
              · cases z
              · exact nal i hi (List.mem_cons_of_mem _ z)
            refine ⟨?_, ?_⟩
            · rw [wipe_of_agree ag']
              exact wipe_of_agree wipe_agree
            · refine htt _ _ _ ⟨F4, ls3, _, _, R4, ?_⟩
              cases e3 : mt ls3 with
              | err x ls5 => simp only [e3, PostM] at po2
              | stk => simp only [e3, PostM] at po2
              | ok k3 ls5 =>
                cases k3 with
                | dat d3 =>
                  cases d3 with
                  | bl b =>
                    cases b with
                    | false =>
                      simp only [e3] at po2
                      intro F5 H5 R5
                      rw [if_neg (by decide)]
                      exact ⟨F5, _, acc, empAt_wipe fun i hi => hi, back R5, po2⟩
                    | true =>
                      simp only [e3] at po2
                      intro F5 H5 R5
                      rw [if_pos rfl]
                      refine hte _ _ _ ⟨F5, ls5, _, _, R5, ?_⟩
                      cases e6 : me ls5 with
                      | err x ls6 => simp only [e6, PostM] at po2
                      | stk => simp only [e6, PostM] at po2
                      | ok k6 ls6 =>
                        simp only [e6] at po2
                        intro y F6 H6 R6
                        cases e7 : VM.freezeK k6 ls6 with
                        | none => simp only [e7, PostM] at po2
                        | some q =>
                          obtain ⟨yd, ls7⟩ := q
                          simp only [e7] at po2
                          split at po2
                          · rename_i hz
                            obtain ⟨F7, _, R7⟩ := R6.freezeK e7
                            obtain ⟨xs, hx, dx⟩ := top2 R7
                            obtain ⟨y', ey, dy⟩ := R7.good.head
                            cases ey
                            refine ⟨xs, hx, line_lt (by rw [← dx.length]; exact hz), F7, _, acc ++ [yd], empAt_wipe fun i hi => hi, back ?_, po2⟩
                            exact R7.pop.mutTop (d' := .lst (acc ++ [yd])) (dx.snoc dy)
                          · exact po2.elim
                  | _ => simp only [e3, PostM] at po2
                | _ => simp only [e3, PostM] at po2
        · have e0 : i = items.length := by omega
          subst e0
          rw [List.drop_length] at po2
          have R2' : Rp G F2 H2 (wipe σ own) ls2 (gvs ++ .ref Ad :: vs) (gks ++ .own (.lst acc) :: ks) := R2.unrot gl
          have hg : gOk gd ls2 = true := by
            cases q : gOk gd ls2 with
            | true => rfl
            | false => simp only [lcL, q, PostM] at po2; exact po2.elim
          simp only [lcL, hg, if_true] at po2
          refine .inl ⟨wk.stop F2 H2 _ ls2 _ _ hg R2', po2 _ F2 H2 ?_⟩
          exact (Rp.popN gks gvs gl R2').agree wipe_agree hem2
    · exact po.elim
theorem imp_yes {G : Cfg} {σ : L2.St} {H : Hp} {Q : Bool → Hp → Prop} (h : tT G WF (conM (.bl true)) σ H Q) : tYes σ H Q := by
  obtain ⟨F, ls, vs, ks, R, po⟩ := h
  exact po F H R
variable {elt tg iter c : Expr} {scope : Scope} {ow : List (Str × Nat)} {pos : Pos}
theorem e_lc (hc : X.calm = true) (hN : X.N.Nodup) (hi : L2.PI X tg iter (tI (cfg X B) W im)) (ok : BlkOk X.N X.env.scope scope ow)
    (hg : ∀ (s : Shared) (H : Hp) (C : Addr) (cl : List (Str × Addr)) (fp : List Addr), L2.PG (X.blk s H scope (compEnvC scope cl C X.env) fp) tg (tG (cfg X B) t is))
    (he : ∀ (s : Shared) (H : Hp) (C : Addr) (cl : List (Str × Addr)) (fp : List Addr), L2.PE (X.blk s H scope (compEnvC scope cl C X.env) fp) elt (tM (cfg X B) WF me)) (his : ∀ i ∈ is, i ∈ ow.map (·.2) := by decide) (hs : ∀ x, foldedSetIterable iter X.env x = pure x := by intro _; rfl) :
    L2.PE X (.ListComp elt [⟨tg, iter, [], 0⟩] scope pos) (tM (cfg X B) W (lcM (ow.map (·.2)) im t (conM (.bl true)) me)) :=
  PE.imp (pe_lc hc hN hi ok hg (fun _ _ _ _ _ => pts_nil) he hs) fun σ H Q h => imp_lc his (fun _ _ _ => imp_yes) (fun _ _ _ q => q) h
def fgtS (own : List Nat) (s : SM) : SM := fun ls => s (wipeL ls own)
theorem s_fgt {st : Stmt} {sa : SM} (own : List Nat) (h : L2.PS X st (tS (cfg X B) W sa)) : L2.PS X st (tS (cfg X B) W (fgtS own sa)) := PS.imp h fun D σ H h => by
  obtain ⟨F, ls, vs, ks, na, R, po⟩ := h
  exact ⟨F, wipeL ls own, vs, ks, na, R.forgetL fun i _ => na i, po⟩
end
def looks (ls : LS) : List Slot → Option (List D)
  | [] => some []
  | k :: r => match look ls k, looks ls r with
    | some d, some ds => some (d :: ds)
    | _, _ => none
inductive Vws (G : Cfg) (F H : Hp) : List V → List D → Prop
  | nil : Vws G F H [] []
  | cons {v : V} {d : D} {vs : List V} {ds : List D} : Vw G F H v d → Vws G F H vs ds → Vws G F H (v :: vs) (d :: ds)
theorem Rp.views {G : Cfg} {F H : Hp} {σ : L2.St} {ls : LS} {vs : List V} {ks : List Slot} : ∀ {as : List Slot} {ws : List V} {ds : List D}, ws.length = as.length → looks ls as = some ds → Rp G F H σ ls (ws ++ vs) (as ++ ks) → Vws G F H ws ds
  | [], [], _, _, h, _ => by cases h; exact .nil
  | [], _ :: _, _, hl, _, _ => by simp at hl
  | _ :: _, [], _, hl, _, _ => by simp at hl
  | k :: as, w :: ws, ds, hl, h, R => by
    cases e : look ls k with
    | none => simp only [looks, e] at h; cases h
    | some d =>
      cases e2 : looks ls as with
      | none => simp only [looks, e, e2] at h; cases h
      | some r =>
        simp only [looks, e, e2] at h
        cases h
        exact .cons (R.view0 e) (Rp.views (by simpa using hl) e2 R.pop)
def OpMA (G : Cfg) (r : List V → Hp → VK → Prop) (g : List D → Option Slot) : Prop := ∀ F H σ ls vs ks ws ds k Q, Rp G F H σ ls vs ks → Vws G F H ws ds → g ds = some k →
  (∀ u F' H', Rp G F' H' σ ls (u :: vs) (k :: ks) → Q u H') → r ws H Q
def bltM (g : List D → Option Slot) (am : AM) : M := fun ls => (am ls).bind fun as ls => match looks ls as with
  | some ds => (match g ds with
    | some k => .ok k ls
    | none => .stk)
  | none => .stk
section
variable {X : Cx} {B : Base} {W : WX} {e o : Expr} {es : List Expr} {am : AM} {om vm im : M} {pos p apos cpos : Pos} {x name : Str} {id T : String} {r : List V → Hp → VK → Prop} {g : List D → Option Slot}
theorem imp_blt {G : Cfg} (hr : OpMA G r g) {σ : L2.St} {H : Hp} {Q : VK} (h : tM G W (bltM g am) σ H Q) : tCB r (tA G W am) σ H Q := by
  refine tA_bind h fun F ls vs ks ws H' as hl R po => ?_
  cases e1 : looks ls as with
  | none => simp only [e1, PostM] at po
  | some ds =>
    cases e2 : g ds with
    | none => simp only [e1, e2, PostM] at po
    | some k =>
      simp only [e1, e2] at po
      exact hr F H' σ ls vs ks ws ds k Q (Rp.popN as ws hl R) (R.views hl e1) e2 po
theorem e_blt (hr : OpMA (cfg X B) r g) (hc : CallR X (.builtin id) r) (hm : X.mg x = none) (hv : bootBuiltins x = some (.builtin id)) (ha : L2.PA X (e :: es) (tA (cfg X B) W am)) (hg : Gl X x := by rfl) (hn : x ≠ "__name__" := by decide) (hdb : (x == ("__debug__" : Str)) = false := by decide)
    (he : starEach (e :: es) X.env = (false, eval e X.env) :: starEach es X.env := by rfl) (hpl : (backTo pos (starEach es X.env)).any (·.1) = false := by rfl) : L2.PE X (.Call (.Name x p) (e :: es) [] pos) (tM (cfg X B) W (bltM g am)) :=
  PE.imp (pe_callB hc hg hm hv ha hn hdb he hpl) fun _ _ _ h => imp_blt hr h
theorem e_bty (hr : OpMA (cfg X B) r g) (hc : CallR X (.type T) r) (hm : X.mg x = none) (hv : bootBuiltins x = some (.type T)) (ha : L2.PA X (e :: es) (tA (cfg X B) W am)) (hg : Gl X x := by rfl) (hn : x ≠ "__name__" := by decide) (hdb : (x == ("__debug__" : Str)) = false := by decide)
    (he : starEach (e :: es) X.env = (false, eval e X.env) :: starEach es X.env := by rfl) (hpl : (backTo pos (starEach es X.env)).any (·.1) = false := by rfl) : L2.PE X (.Call (.Name x p) (e :: es) [] pos) (tM (cfg X B) W (bltM g am)) :=
  PE.imp (pe_callTy hc hg hm hv ha hn hdb he hpl) fun _ _ _ h => imp_blt hr h
end
theorem CallR.or {X : Cx} {f : Value} {r r' : List V → Hp → VK → Prop} (h : CallR X f r) (h' : CallR X f r') : CallR X f fun xs H Q => r xs H Q ∨ r' xs H Q := fun pins s σ H xs us Q I rr q => q.elim (h pins s σ H xs us Q I rr) (h' pins s σ H xs us Q I rr)
section
variable {G : Cfg}
def absD : List D → Option Slot
  | [.int i] => some (.dat (.int (if i < 0 then -i else i)))
  | _ => none
theorem m_abs : OpMA G (fun xs H Q => ∃ i, xs = [.int i] ∧ Q (.int (if i < 0 then -i else i)) H) absD := by
  intro F H σ ls vs ks ws ds k Q R hv hg q
  unfold absD at hg
  split at hg
  · cases hg
    cases hv with | cons h1 h2 =>
    cases h2
    have := Vw.int R.ex h1
    subst this
    exact ⟨_, rfl, q _ _ _ (R.pushDat (.int _))⟩
  · cases hg
def intD : List D → Option Slot
  | [.int i] => some (.dat (.int i))
  | [.bl k] => some (.dat (.int (if k then 1 else 0)))
  | _ => none
theorem m_int : OpMA G (fun xs H Q => (∃ i, xs = [.int i] ∧ Q (.int i) H) ∨ ∃ k, xs = [.bl k] ∧ Q (.int (if k then 1 else 0)) H) intD := by
  intro F H σ ls vs ks ws ds k Q R hv hg q
  unfold intD at hg
  split at hg
  · cases hg
    cases hv with | cons h1 h2 =>
    cases h2
    have := Vw.int R.ex h1
    subst this
    exact .inl ⟨_, rfl, q _ _ _ (R.pushDat (.int _))⟩
  · cases hg
    cases hv with | cons h1 h2 =>
    cases h2
    have := Vw.bl R.ex h1
    subst this
    exact .inr ⟨_, rfl, q _ _ _ (R.pushDat (.int _))⟩
  · cases hg
def maxD : List D → Option Slot
  | [.int i, .int j] => some (.dat (.int (if j > i then j else i)))
  | _ => none
def minD : List D → Option Slot
  | [.int i, .int j] => some (.dat (.int (if j < i then j else i)))
  | _ => none
theorem m_max : OpMA G (fun xs H Q => ∃ i j, xs = [.int i, .int j] ∧ Q (.int (if j > i then j else i)) H) maxD := by
  intro F H σ ls vs ks ws ds k Q R hv hg q
  unfold maxD at hg
  split at hg
  · cases hg
    cases hv with | cons h1 h2 =>
    cases h2 with | cons h2 h3 =>
    cases h3
    have := Vw.int R.ex h1
    subst this
    have := Vw.int R.ex h2
    subst this
    exact ⟨_, _, rfl, q _ _ _ (R.pushDat (.int _))⟩
  · cases hg
theorem m_min : OpMA G (fun xs H Q => ∃ i j, xs = [.int i, .int j] ∧ Q (.int (if j < i then j else i)) H) minD := by
  intro F H σ ls vs ks ws ds k Q R hv hg q
  unfold minD at hg
  split at hg
  · cases hg
    cases hv with | cons h1 h2 =>
    cases h2 with | cons h2 h3 =>
    cases h3
    have := Vw.int R.ex h1
    subst this
    have := Vw.int R.ex h2
    subst this
    exact ⟨_, _, rfl, q _ _ _ (R.pushDat (.int _))⟩
  · cases hg
def lenD : List D → Option Slot
  | [.lst ds] => some (.dat (.int ds.length))
  | [.tup ds] => some (.dat (.int ds.length))
  | [.ktup ds] => some (.dat (.int ds.length))
  | [.scr ds] => some (.dat (.int ds.length))
  | [.dK ds] => some (.dat (.int ds.length))
  | [.dT ds] => some (.dat (.int ds.length))
  | [.str z] => if z.length ≤ lim then some (.dat (.int z.length)) else none
  | _ => none
def rLenU (K : PySem.W.Frag) : List V → Hp → VK → Prop := fun xs H Q => (∃ p ys, xs = [.ref p] ∧ (SqL K H p ys ∨ SqT K H p ys) ∧ Q (.int ys.length) H) ∨ (∃ z, xs = [.str z] ∧ z.length ≤ sizeLine ∧ Q (.int z.length) H) ∨ (∃ a kvs, xs = [V.ref a] ∧ Rd H a (.dK kvs) ∧ Q (.int kvs.length) H) ∨ ∃ (a : Addr) (kvs : List (List Key × V)), xs = [V.ref a] ∧ Rd H a (.dT kvs) ∧ Q (.int kvs.length) H
theorem call_lenDR {X : Cx} : CallR X (.builtin "len") (fun xs H Q => ∃ a kvs, xs = [V.ref a] ∧ Rd H a (.dK kvs) ∧ Q (.int kvs.length) H) := by
  intro pins s σ H xs us Q I r h
  obtain ⟨a, kvs, rfl, ha, q⟩ := h
  obtain ⟨u, rfl, ru⟩ := vals1 r
  cases ru
  exact d_len I ha fun t s' I' => ⟨.int kvs.length, H, I', ⟨t, rfl⟩, q⟩
theorem call_lenTR {X : Cx} : CallR X (.builtin "len") (fun xs H Q => ∃ (a : Addr) (kvs : List (List Key × V)), xs = [V.ref a] ∧ Rd H a (.dT kvs) ∧ Q (.int kvs.length) H) := by
  intro pins s σ H xs us Q I r h
  obtain ⟨p, kvs, rfl, hp, q⟩ := h
  obtain ⟨u, rfl, rx⟩ := vals1 r
  obtain rfl : u = .ref p := rx
  obtain ⟨z, hd, ys, rel, dd⟩ := dt_rd I.hok hp
  have hl : kvs.length = ys.length := Paired.length rel
  refine call_len_dictH hd dd (by rw [← hl]; rw [sizeLine_eq] at z; omega) ?_
  rw [← hl]
  exact ⟨.int ((kvs.length : Nat) : Int), H, I.tok _, ⟨_, rfl⟩, q⟩
theorem c_len {X : Cx} : CallR X (.builtin "len") (rLenU X.K) := call_len_seq.or (call_len_str.or (call_lenDR.or call_lenTR))
theorem m_len : OpMA G (rLenU G.K) lenD := by
  intro F H σ ls vs ks ws ds k Q R hv hg q
  have one : ∀ {n m : Nat}, n = m → (∀ u F' H', Rp G F' H' σ ls (u :: vs) (.dat (.int (n : Int)) :: ks) → Q u H') → Q (.int (m : Int)) H := fun e q => by
    subst e; exact q _ _ _ (R.pushDat (.int _))
  unfold lenD at hg
  split at hg
  · cases hg
    cases hv with | cons h1 h2 =>
    cases h2
    obtain ⟨a, xs, rfl, e, dd⟩ := Vw.lst R.ex h1
    exact .inl ⟨a, xs, rfl, .inl (SqL.of e), one dd.length q⟩
  · cases hg
    cases hv with | cons h1 h2 =>
    cases h2
    obtain ⟨a, xs, rfl, e, dd⟩ := Vw.tup R.ex h1
    exact .inl ⟨a, xs, rfl, .inr (SqT.of e), one dd.length q⟩
  · cases hg
    cases hv with | cons h1 h2 =>
    cases h2
    obtain ⟨a, xs, rfl, e, dd⟩ := Vw.ktup R.ex h1
    exact .inl ⟨a, xs, rfl, .inr e, one dd.length q⟩
  · cases hg
    cases hv with | cons h1 h2 =>
    cases h2
    obtain ⟨a, rfl, e⟩ := Vw.scr R.ex h1
    exact .inl ⟨a, _, rfl, .inl e, one (List.length_map _).symm q⟩
  · cases hg
    cases hv with | cons h1 h2 =>
    cases h2
    obtain ⟨a, xs, rfl, e, dd⟩ := Vw.dK R.ex h1
    exact .inr (.inr (.inl ⟨a, xs, rfl, e, one dd.length q⟩))
  · cases hg
    cases hv with | cons h1 h2 =>
    cases h2
    obtain ⟨a, xs, rfl, e, dd⟩ := Vw.dT R.ex h1
    exact .inr (.inr (.inr ⟨a, xs, rfl, e, one dd.length q⟩))
  · obtain ⟨hz, rfl⟩ := ite_some hg
    cases hv with | cons h1 h2 =>
    cases h2
    have := Vw.str R.ex h1
    subst this
    exact .inr (.inl ⟨_, rfl, line_of hz, one rfl q⟩)
  · cases hg
def listD : List D → Option Slot
  | [.lst ds] => some (.own (.lst ds))
  | [.tup ds] => some (.own (.lst ds))
  | [.ktup ds] => some (.own (.lst ds))
  | _ => none
def tupleD : List D → Option Slot
  | [.lst ds] => some (.dat (.tup ds))
  | [.tup ds] => some (.dat (.tup ds))
  | _ => none
def blsD : List D → Option (List Bool)
  | [] => some []
  | .bl b :: r => (blsD r).map (b :: ·)
  | _ :: _ => none
def allD : List D → Option Slot
  | [.lst ds] => (blsD ds).map fun bs => .dat (.bl (bs.all id))
  | _ => none
def anyD : List D → Option Slot
  | [.lst ds] => (blsD ds).map fun bs => .dat (.bl (bs.any id))
  | _ => none
def intsD : List D → Option (List Int)
  | [] => some []
  | .int b :: r => (intsD r).map (b :: ·)
  | _ :: _ => none
def sumD : List D → Option Slot
  | [.lst ds] => (intsD ds).map fun bs => .dat (.int bs.sum)
  | _ => none
def isnD : D → D → Option Slot
  | .non, .non => some (.dat (.bl true))
  | _, .non => some (.dat (.bl false))
  | _, _ => none
def notnD : D → D → Option Slot
  | .non, .non => some (.dat (.bl false))
  | _, .non => some (.dat (.bl true))
  | _, _ => none
def tyD : D → Option String
  | .non => some "NoneType"
  | .bl _ => some "bool"
  | .int _ => some "int"
  | .str _ => some "str"
  | .lst _ => some "list"
  | .tup _ => some "tuple"
  | .dK _ => some "dict"
  | _ => none
theorem tyD_vw {F H : Hp} (x : Ex F H) {v : V} {d : D} {t : String} (h : Vw G F H v d) (e : tyD d = some t) : TyX G.K H v (.type t) := by
  cases d <;> first | (cases e; done) | cases e
  · rw [Vw.non x h]; exact .base .non
  · rw [Vw.bl x h]; exact .base (.bl _)
  · rw [Vw.int x h]; exact .base (.int _)
  · rw [Vw.str x h]; exact .base (.str _)
  · obtain ⟨a, xs, rfl, e, _⟩ := Vw.lst x h; exact .base (.lst e)
  · obtain ⟨a, xs, rfl, e, _⟩ := Vw.tup x h; exact .base (.tup e)
  · obtain ⟨a, xs, rfl, e, _⟩ := Vw.dK x h
    rcases e with e | ⟨o, e⟩
    · exact .base (.dK e)
    · exact .fDict e
structure InsOk (K : PySem.W.Frag) (C : Addr) : Prop where
  cl : Cls K C
  ha : PySem.W.findIn K (.ref C) "__class__" = some (some (.builtin "object.__class__"))
  hn : PySem.W.specialIn K (.builtin "object.__class__") "__get__" = some (some (.builtin "getset_descriptor.__get__"))
  htk : PySem.W.takesIn K (.builtin "object.__class__") = some true
  hm : PySem.W.mroIn K C (.type "object") = some true
def isiD (tb : D → Option Bool) (tc : Str → Option Bool) (d : D) : Option Bool := match d with
  | .ins y _ => tc y
  | d => tb d
structure IsiOk (K : PySem.W.Frag) (mg : Str → Option Value) (u : Value) (tb : D → Option Bool) (tc : Str → Option Bool) : Prop where
  b : ∀ d b, tb d = some b → ∃ t, tyD d = some t ∧ PySem.W.kitOne K (.type t) u = some b
  c : ∀ y b, tc y = some b → ∃ C, mg y = some (.ref C) ∧ InsOk K C ∧ PySem.W.kitOne K (.ref C) u = some b
def isiM (tb : D → Option Bool) (tc : Str → Option Bool) (om : M) : M := fun ls => (om ls).bind fun k ls => match look ls k with
  | some d => (match isiD tb tc d with
    | some b => .ok (.dat (.bl b)) ls
    | none => .stk)
  | none => .stk
end
section
variable {X : Cx} {B : Base} {W : WX} {e o : Expr} {es : List Expr} {am : AM} {om vm im : M} {pos p apos cpos : Pos} {x name : Str} {id T : String} {tb : D → Option Bool} {tc : Str → Option Bool}
theorem e_ty {u : Str} {T : String} {up : Pos} (hmu : X.mg u = none) (hv : bootBuiltins u = some (.type T)) (hgu : Gl X u := by rfl) (hn : u ≠ "__name__" := by decide) (hdb : (u == ("__debug__" : Str)) = false := by decide) : L2.PE X (.Name u up) (tC (.ty T)) :=
  ⟨fun pins s σ H Q I h => ld_blt I hgu hmu hv ⟨.ty T, H, I, (show RelV (V.ty T) (Value.type T) from rfl), h⟩ hn hdb⟩
structure FldOk (K : PySem.W.Frag) (mg : Str → Option Value) (f : Str) (xs : List Str) : Prop where
  c : ∀ y ∈ xs, ∃ C, mg y = some (.ref C) ∧ Cls K C ∧ NoAttr K C f
def fldM (xs : List Str) (f : Str) (om : M) : M := fun ls => (om ls).bind fun k ls => match look ls k with
  | some (.ins y gs) => if y ∈ xs then (match gs.lookup f with
    | some d => .ok (.dat d) ls
    | none => .stk) else .stk
  | _ => .stk
theorem Rp.mutAli {G : Cfg} {F H : Hp} {σ : L2.St} {ls : LS} {vs ws : List V} {ks as : List Slot} {v : V} {i : Nat} {d : D} {c : D → Slot} (hc : c = Slot.own ∨ c = Slot.par) (hl : ws.length = as.length) (R : Rp G F H σ ls (ws ++ v :: vs) (as ++ .ali i :: ks)) (hi : ls[i]? = some (c d)) :
    ∃ p o, v = .ref p ∧ H p = some o ∧ ObD G F o d ∧ ∀ o' d', ObD G F o' d' → Rp G F (upd H p o') σ (ls.set i (c d')) (ws ++ v :: vs) (as ++ .ali i :: ks) := by
  have hm : (v, Slot.ali i) ∈ (ws ++ v :: vs).zip (as ++ .ali i :: ks) := by
    rw [List.zip_append hl]
    exact List.mem_append_right _ (by simp)
  obtain ⟨s, a1, a2, a3⟩ := R.al v i hm
  rw [hi] at a2; cases a2
  obtain ⟨u, b1, b2⟩ := R.loc hi
  rw [a1] at b1; cases b1
  have key : ∃ p, v = .ref p ∧ OwnAt G F H p d := by
    rcases hc with rfl | rfl
    · obtain ⟨p, e, o⟩ := b2; cases e; exact ⟨p, rfl, o⟩
    · obtain ⟨p, e, o⟩ := b2; cases e; exact ⟨p, rfl, o⟩
  obtain ⟨p, rfl, _, _, o, h1, h2⟩ := key
  exact ⟨p, o, rfl, h1, h2, fun o' d' hb => R.mutLoc hc hi a1 hb⟩
def putFD (f : Str) (d : D) : List (Str × D) → List (Str × D)
  | [] => [(f, d)]
  | (g, x) :: r => if g = f then (g, d) :: r else (g, x) :: putFD f d r
def chg (i : Nat) (g : D → Option D) (ls : LS) : Option LS := match ls[i]? with
  | some (.own d) => (g d).map fun d' => ls.set i (.own d')
  | some (.par d) => (g d).map fun d' => ls.set i (.par d')
  | _ => none
theorem chg_some {i : Nat} {g : D → Option D} {ls ls' : LS} (h : chg i g ls = some ls') : ∃ (c : D → Slot) (d d' : D), (c = Slot.own ∨ c = Slot.par) ∧ ls[i]? = some (c d) ∧ g d = some d' ∧ ls' = ls.set i (c d') := by
  unfold chg at h
  split at h
  · rename_i d hd
    cases e : g d with
    | none => rw [e] at h; cases h
    | some d' => rw [e] at h; cases h; exact ⟨.own, d, d', .inl rfl, hd, e, rfl⟩
  · rename_i d hd
    cases e : g d with
    | none => rw [e] at h; cases h
    | some d' => rw [e] at h; cases h; exact ⟨.par, d, d', .inr rfl, hd, e, rfl⟩
  · cases h
def fldG (xs : List Str) (f : Str) (d : D) : D → Option D
  | .ins y gs => if y ∈ xs ∧ gs.length < 1000 then some (.ins y (putFD f d gs)) else none
  | _ => none
def setF (xs : List Str) (f : Str) (om vm : M) : SM := fun ls => (frzM vm ls).bindS fun k ls => match k with
  | .dat d => (om ls).bindS fun ko ls => (match ko with
    | .ali i => (match chg i (fldG xs f d) ls with
      | some ls => .nx ls
      | none => .stk)
    | _ => .stk)
  | _ => .stk
end
end VM
set_option maxHeartbeats 2000000
namespace L2
open PySem PySem.Spec PyProof.Rows
abbrev CLs := List (Option Nat × Value × (Addr → Value → Option Addr → TS))
def atNone (i : Nat) (D : Ends) : Ends := { nx := fun σ' H' => D.nx (σ'.set i none) H', rt := D.rt, bk := fun σ' H' => D.bk (σ'.set i none) H', ct := fun σ' H' => D.ct (σ'.set i none) H' }
def inSuite (io : Option Nat) (ts : TS) (a : Addr) (D : Ends) (σ : St) (H : Hp) : Prop := match io with
  | none => ts D σ H
  | some i => ts (atNone i D) (σ.set i (some (.ref a))) H
def wBoth (K : PySem.W.Frag) (Wout : WX) (D : Ends) : CLs → WX
  | [] => Wout
  | (io, c, ts) :: r => fun cls d σ H => ∃ b, PySem.W.exmOne K cls c = some b ∧ (b = true → ∀ a, H a = none → inSuite io (ts a cls d) a D σ H) ∧ (b = false → wBoth K Wout D r cls d σ H)
inductive HdsOkB (X : Cx) : List ExceptHandler → CLs → Prop
  | nil : HdsOkB X [] []
  | cons {x : Str} {c : Value} {ts : Addr → Value → Option Addr → TS} {b₀ : Stmt} {suite : List Stmt} {np pos' : Pos} {hds : List ExceptHandler} {l : CLs} (hc : Names X x c)
      (hsu : ∀ (a : Addr) (oe : Obj) (cls : Value) (d : Option Addr) (pn : List (Addr × Obj)), Zc cls d oe → (∃ vs, oe.data = .fields vs) → PSs (X.suite a ((a, oe) :: pn)) (b₀ :: suite) (ts a cls d)) (r : HdsOkB X hds l) :
      HdsOkB X (.ExceptHandler (some (.Name x np)) none (b₀ :: suite) pos' :: hds) ((none, c, ts) :: l)
  | as {x n : Str} {i : Nat} {c : Value} {ts : Addr → Value → Option Addr → TS} {b₀ : Stmt} {suite : List Stmt} {np pos' : Pos} {hds : List ExceptHandler} {l : CLs} (hc : Names X x c) (hi : X.N[i]? = some n) (hln : X.env.kindOf n = some .local)
      (hsu : ∀ (a : Addr) (oe : Obj) (cls : Value) (d : Option Addr) (pn : List (Addr × Obj)), Zc cls d oe → (∃ vs, oe.data = .fields vs) → PSs (X.suite a ((a, oe) :: pn)) (b₀ :: suite) (ts a cls d)) (r : HdsOkB X hds l) :
      HdsOkB X (.ExceptHandler (some (.Name x np)) (some n) (b₀ :: suite) pos' :: hds) ((some i, c, ts) :: l)
section
variable {X : Cx} {body : List Stmt} {h₀ : ExceptHandler} {hds : List ExceptHandler} {l : CLs} {pos : Pos} {tb : WX → TS} {Wout : WX}
end
end L2
namespace VM
open PySem L2
def spX1 (C : Addr) (f : Str) : Sp := fun vs H Q E => ∃ a y, vs = [V.ref a, y] ∧ H a = some (exo a C none) ∧ ∀ dx, H dx = none → dx ≠ a → Q .non (upd (upd H dx (exd dx [(f, y)])) a (exo a C (some dx)))
def spX2 (C : Addr) (f g : Str) : Sp := fun vs H Q E => ∃ a y z, vs = [V.ref a, y, z] ∧ H a = some (exo a C none) ∧ ∀ dx, H dx = none → dx ≠ a →
  Q .non (upd (upd (upd H dx (exd dx [(f, y)])) a (exo a C (some dx))) dx (exd dx [(g, z), (f, y)]))
section
variable {P : Program} {w : World} {K : PySem.W.Frag} {mg : Str → Option Value} {base : Heap} {CX : CXT}
theorem xinit1 {x qual f s p : Str} {st : Stmt} {C fI : Addr} {fd : FuncData} {pos p1 p2 p3 : Pos} (F : L2.Fun K x qual st fI fd) (S : FnScope [s, p] [s, p] (defScope st)) (T : OexC K C) (hno : PySem.W.findIn K (.ref C) f = some none)
    (hbd : defBody st = [.Assign [.Attribute (.Name s p1) f p2] (.Name p p3) pos])
    (h1 : (defScope st).names.lookup s = some .local := by rfl) (h2 : (defScope st).names.lookup p = some .local := by rfl)
    (hs : ∀ env : Env, swapsWith (.Name p p3) (some (.Attribute (.Name s p1) f p2)) pos.line env = pure false := by intro _; rfl)
    (d1 : (s == ("__debug__" : Str)) = false := by decide) (d2 : (p == ("__debug__" : Str)) = false := by decide) (c1 : (s == ("__classdict__" : Str)) = false := by decide) (c2 : (p == ("__classdict__" : Str)) = false := by decide) :
    FnOk P w K mg base (L2.CX P w) 1 fI fd [s, p] (spX1 C f) := by
  refine F.okX (sp := spX1 C f) S (fun vs H Q E ⟨a, y, e, _⟩ => by rw [e]; rfl) (fun cdv A outer s0 H vs Q E hr h => ?_)
  obtain ⟨a, y, rfl, ea, q⟩ := h
  rw [hbd]
  refine ⟨_, pss_one (ps_ost (pe_var (i := 0) rfl (.inl h1) d1 c1) (pe_var (i := 1) rfl (.inl h2) d2 c2) (hs _)), ?_⟩
  exact ⟨y, rfl, .ref a, rfl, a, C, rfl, T, hno, .inl ⟨ea, fun dx n ne => q dx n ne⟩⟩
theorem xinit2 {x qual f g s p r : Str} {st : Stmt} {C fI : Addr} {fd : FuncData} {pos p1 p2 p3 pos' q1 q2 q3 : Pos} (F : L2.Fun K x qual st fI fd) (S : FnScope [s, p, r] [s, p, r] (defScope st)) (T : OexC K C) (hno : PySem.W.findIn K (.ref C) f = some none) (hno2 : PySem.W.findIn K (.ref C) g = some none)
    (hbd : defBody st = [.Assign [.Attribute (.Name s p1) f p2] (.Name p p3) pos, .Assign [.Attribute (.Name s q1) g q2] (.Name r q3) pos'])
    (h1 : (defScope st).names.lookup s = some .local := by rfl) (h2 : (defScope st).names.lookup p = some .local := by rfl) (h3 : (defScope st).names.lookup r = some .local := by rfl)
    (hs : ∀ env : Env, swapsWith (.Name p p3) (some (.Attribute (.Name s p1) f p2)) pos.line env = pure false := by intro _; rfl)
    (hs2 : ∀ env : Env, swapsWith (.Name r q3) (some (.Attribute (.Name s q1) g q2)) pos'.line env = pure false := by intro _; rfl)
    (d1 : (s == ("__debug__" : Str)) = false := by decide) (d2 : (p == ("__debug__" : Str)) = false := by decide) (d3 : (r == ("__debug__" : Str)) = false := by decide) (c1 : (s == ("__classdict__" : Str)) = false := by decide) (c2 : (p == ("__classdict__" : Str)) = false := by decide) (c3 : (r == ("__classdict__" : Str)) = false := by decide) :
    FnOk P w K mg base (L2.CX P w) 1 fI fd [s, p, r] (spX2 C f g) := by
  refine F.okX (sp := spX2 C f g) S (fun vs H Q E ⟨a, y, z, e, _⟩ => by rw [e]; rfl) (fun cdv A outer s0 H vs Q E hr h => ?_)
  obtain ⟨a, y, z, rfl, ea, q⟩ := h
  rw [hbd]
  refine ⟨_, pss_cons (ps_ost (pe_var (i := 0) rfl (.inl h1) d1 c1) (pe_var (i := 1) rfl (.inl h2) d2 c2) (hs _)) (pss_one (ps_ost (pe_var (i := 0) rfl (.inl h1) d1 c1) (pe_var (i := 2) rfl (.inl h3) d3 c3) (hs2 _))), ?_⟩
  refine ⟨y, rfl, .ref a, rfl, a, C, rfl, T, hno, .inl ⟨ea, fun dx n ne => ?_⟩⟩
  refine ⟨z, rfl, .ref a, rfl, a, C, rfl, T, hno2, .inr ⟨dx, [(f, y)], upd_same, ?_, by show 1 ≤ 900; omega, q dx n ne⟩⟩
  rw [upd_ne ne]; exact upd_same
end
def raise0 (c : Str) : SM := fun ls => .err ⟨c, []⟩ ls
def raise1 (c f : Str) (am : AM) : SM := fun ls => match am ls with
  | .ok as ls => (match as with
    | [.dat d] => .err ⟨c, [(f, d)]⟩ ls
    | _ => .stk)
  | .err x ls => .err x ls
  | .stk => .stk
def raise2 (c f g : Str) (am : AM) : SM := fun ls => match am ls with
  | .ok as ls => (match as with
    | [.dat d, .dat d'] => .err ⟨c, [(g, d'), (f, d)]⟩ ls
    | _ => .stk)
  | .err x ls => .err x ls
  | .stk => .stk
section
variable {X : Cx} {B : Base} {W : WX} {e : Expr} {es : List Expr} {am : AM} {pos p pos' : Pos} {x : Str} {C fI : Addr} {k : Nat} {fd : FuncData} {ps : List Str}
end
structure XFact (K : PySem.W.Frag) (mg : Str → Option Value) (B : Base) (io : Option Nat) (a : Addr) (cls : Value) (d : Option Addr) (x : Exn) : Prop where
  name : mg x.name = some cls
  at_ : ∀ i, io = some i → B.P i = some (some (.ref a))
  er : (d = none ∧ x.fs = []) ∨ ∃ dd fs, d = some dd ∧ B.F dd = some (.xd fs) ∧ DDf K mg B.F x.fs fs
structure Cl where
  ct : Str → Option Bool
  io : Option Nat
  h : Exn → SM
def unAs (i : Nat) (r : S) : S := match r with
  | .nx ls => .nx (ls.set i .emp)
  | .brk ls => .brk (ls.set i .emp)
  | .cnt ls => .cnt (ls.set i .emp)
  | .ret k ls => (match k with
    | .ali j => if j = i then .stk else .ret (.ali j) (ls.set i .emp)
    | k => .ret k (ls.set i .emp))
  | _ => .stk
def catchL : List Cl → Exn → LS → S
  | [], x, ls => .err x ls
  | c :: r, x, ls => match c.ct x.name with
    | some true => (match c.io with
      | none => (match c.h x ls with
        | .err _ _ => .stk
        | r => r)
      | some i => unAs i (c.h x (ls.set i (.ali 0))))
    | some false => catchL r x ls
    | none => .stk
def tryM (b : SM) (cl : List Cl) : SM := fun ls => match b ls with
  | .err x ls => catchL cl x ls
  | r => r
def tSuite (K : PySem.W.Frag) (mg : Str → Option Value) (c : Cl) : Addr → Value → Option Addr → TS := fun a cls d D σ H => ∃ x B, XFact K mg B c.io a cls d x ∧ tS ⟨K, mg, B⟩ WF (c.h x) D σ H
structure CtOk (K : PySem.W.Frag) (mg : Str → Option Value) (ct : Str → Option Bool) (c : Value) : Prop where
  h : ∀ n b cls, ct n = some b → mg n = some cls → PySem.W.exmOne K cls c = some b
inductive CtsOk (K : PySem.W.Frag) (mg : Str → Option Value) : List (Cl × Value) → Prop
  | nil : CtsOk K mg []
  | cons {c : Cl} {v : Value} {l : List (Cl × Value)} : CtOk K mg c.ct v → CtsOk K mg l → CtsOk K mg ((c, v) :: l)
def clTS (K : PySem.W.Frag) (mg : Str → Option Value) (l : List (Cl × Value)) : CLs := l.map fun p => (p.1.io, p.2, tSuite K mg p.1)
section
variable {X : Cx} {B : Base} {W : WX} {sa : SM} {sts : List Stmt} {pos : Pos} {h₀ : ExceptHandler} {hds : List ExceptHandler} {l : List (Cl × Value)}
inductive HdsM (X : Cx) : List ExceptHandler → List (Cl × Value) → Prop
  | nil : HdsM X [] []
  | cons {x : Str} {c : Value} {ct : Str → Option Bool} {h : Exn → SM} {b₀ : Stmt} {suite : List Stmt} {np pos' : Pos} {hds : List ExceptHandler} {l : List (Cl × Value)} (hc : Names X x c)
      (hsu : ∀ (a : Addr) (oe : Obj) (cls : Value) (d : Option Addr) (pn : List (Addr × Obj)) (x : Exn) (B : Base), Zc cls d oe → (∃ vs, oe.data = .fields vs) → XFact X.K X.mg B none a cls d x → L2.PSs (X.suite a ((a, oe) :: pn)) (b₀ :: suite) (tS ⟨X.K, X.mg, B⟩ WF (h x))) (r : HdsM X hds l) :
      HdsM X (.ExceptHandler (some (.Name x np)) none (b₀ :: suite) pos' :: hds) ((⟨ct, none, h⟩, c) :: l)
  | as {x n : Str} {i : Nat} {c : Value} {ct : Str → Option Bool} {h : Exn → SM} {b₀ : Stmt} {suite : List Stmt} {np pos' : Pos} {hds : List ExceptHandler} {l : List (Cl × Value)} (hc : Names X x c) (hi : X.N[i]? = some n) (hln : X.env.kindOf n = some .local)
      (hsu : ∀ (a : Addr) (oe : Obj) (cls : Value) (d : Option Addr) (pn : List (Addr × Obj)) (x : Exn) (B : Base), Zc cls d oe → (∃ vs, oe.data = .fields vs) → XFact X.K X.mg B (some i) a cls d x → L2.PSs (X.suite a ((a, oe) :: pn)) (b₀ :: suite) (tS ⟨X.K, X.mg, B⟩ WF (h x))) (r : HdsM X hds l) :
      HdsM X (.ExceptHandler (some (.Name x np)) (some n) (b₀ :: suite) pos' :: hds) ((⟨ct, some i, h⟩, c) :: l)
theorem HdsM.ok {hds : List ExceptHandler} {l : List (Cl × Value)} (h : HdsM X hds l) : HdsOkB X hds (clTS X.K X.mg l) := by
  induction h with
  | nil => exact .nil
  | cons hc hsu r ih =>
    refine .cons hc (fun a oe cls d pn hz hf => ?_) ih
    exact ⟨fun pins s σ H D I ⟨x, B, f, t⟩ => (hsu a oe cls d pn x B hz hf f).run pins s σ H D I t⟩
  | as hc hi hln hsu r ih =>
    refine .as hc hi hln (fun a oe cls d pn hz hf => ?_) ih
    exact ⟨fun pins s σ H D I ⟨x, B, f, t⟩ => (hsu a oe cls d pn x B hz hf f).run pins s σ H D I t⟩
def xfM (i : Nat) (nm f : Str) (x : Exn) : M := fun ls => match ls[i]? with
  | some (.ali 0) => if x.name = nm then (match x.fs.lookup f with
    | some d => .ok (.dat d) ls
    | none => .stk) else .stk
  | _ => .stk
end
def setD (x i v : D) : Option D := match x with
  | .lst xs => (match i with
    | .int k => (ixN xs.length k).map fun j => .lst (xs.set j v)
    | _ => none)
  | .dK es => if es.length < lim then (keyK i).map fun k => .dK (putG es k v) else none
  | .dT es => if es.length < lim then (keyT i).map fun k => .dT (putG es k v) else none
  | _ => none
def rSetU : TSet := fun o i v H Q => rSetL o i v H Q ∨ ∃ a H4, o = .ref a ∧ DPut H a i v H4 ∧ Q H4
theorem set_U {X : Cx} (hu : X.A.units + 1 < cLine) : PSet X rSetU := by
  intro pins s σ H o i v ov iv u Q I ro ri rv h
  rcases h with h | ⟨a, H4, rfl, g, q⟩
  · exact set_list pins s σ H o i v ov iv u Q I ro ri rv h
  · obtain rfl : ov = Value.ref a := ro
    exact d_setItem hu I g ri rv fun s' I' => ⟨H4, I', q⟩
theorem DDs.set {K : PySem.W.Frag} {mg : Str → Option Value} {F : Hp} : ∀ {ds : List D} {xs : List V} {d : D} {x : V} {j : Nat}, DDs K mg F ds xs → DD K mg F d x → DDs K mg F (ds.set j d) (xs.set j x)
  | _, _, _, _, _, .nil, h => .nil
  | _, _, _, _, 0, .cons a r, h => .cons h r
  | _, _, _, _, j + 1, .cons a r, h => .cons a (DDs.set r h)
def setI (om im vm : M) : SM := fun ls => (frzM vm ls).bindS fun kv ls => match kv with
  | .dat d => (om ls).bindS fun ko ls => (im ls).bindS fun ki ls => (match ko, look ls ki with
    | .ali j, some i => (match chg j (fun x => setD x i d) ls with
      | some ls => .nx ls
      | none => .stk)
    | _, _ => .stk)
  | _ => .stk
section
variable {X : Cx} {B : Base} {W : WX} {e o ie v : Expr} {es : List Expr} {am : AM} {om vm im : M} {pos p apos cpos : Pos} {x name : Str} {id T : String}
theorem set_ok {G : Cfg} {F H : Hp} {σ : L2.St} {ls ls' : LS} {vs ks} {a b c : V} {j : Nat} {ki : Slot} {d i : D} {Q : Hp → Prop} (R : Rp G F H σ ls (b :: a :: c :: vs) (ki :: .ali j :: .dat d :: ks)) (hi : look ls ki = some i) (hc : chg j (fun x => setD x i d) ls = some ls')
    (q : ∀ H', Rp G F H' σ ls' vs ks → Q H') : rSetU a b c H Q := by
  obtain ⟨cc, d0, d1, hcc, hj, hg, rfl⟩ := chg_some hc
  obtain ⟨p, ob, rfl, h1, h2, mt⟩ := Rp.mutAli (ws := [b]) (as := [ki]) hcc rfl R hj
  have vi := R.view0 hi
  have dv : DD G.K G.mg F d c := by
    obtain ⟨x, ex, dd⟩ := R.pop.pop.good.head
    cases ex; exact dd
  have fin : ∀ {o' : HO}, ObD G F o' d1 → Q (upd H p o') := fun {o'} h => by
    have z : Rp G F (upd H p o') σ (ls.set j (cc d1)) (b :: .ref p :: c :: vs) (ki :: .ali j :: .dat d :: ks) := mt o' d1 h
    exact q _ z.pop.pop.pop
  unfold setD at hg
  split at hg
  · rename_i xs
    split at hg
    · rename_i k
      cases e : ixN xs.length k with
      | none => rw [e] at hg; cases hg
      | some n =>
        rw [e] at hg
        cases hg
        cases ob with
        | lst ys =>
          have h2 : DDs G.K G.mg F xs ys := h2
          have := Vw.int R.ex vi
          subst this
          exact .inl ⟨p, ys, k, n, rfl, rfl, h1, by rw [← h2.length]; exact e, fin (h2.set dv)⟩
        | _ => exact h2.elim
    · cases hg
  · rename_i es
    split at hg
    · rename_i hz
      cases e : keyK i with
      | none => rw [e] at hg; cases hg
      | some k =>
        rw [e] at hg
        cases hg
        cases ob with
        | dK kvs =>
          have h2 : DDk G.K G.mg F es kvs := h2
          have := keyK_kV R.ex vi e
          subst this
          exact .inr ⟨p, _, rfl, DPut.k h1 (line_lt (by rw [← h2.length]; exact hz)), fin (ddk_put dv h2)⟩
        | _ => exact h2.elim
    · cases hg
  · rename_i es
    split at hg
    · rename_i hz
      cases e : keyT i with
      | none => rw [e] at hg; cases hg
      | some k =>
        rw [e] at hg
        cases hg
        cases ob with
        | dT kvs =>
          have h2 : DDt G.K G.mg F es kvs := h2
          obtain ⟨t, rfl, ht⟩ := keyT_vw R.ex vi e
          exact .inr ⟨p, _, rfl, DPut.t h1 ht (line_lt (by rw [← h2.length]; exact hz)), fin (ddt_put dv h2)⟩
        | _ => exact h2.elim
    · cases hg
  · cases hg
theorem s_setI {pos' : Pos} (hu : X.A.units + 1 < cLine) (ho : L2.PE X o (tM (cfg X B) W om)) (hi : L2.PE X ie (tM (cfg X B) W im)) (hv : L2.PE X v (tM (cfg X B) W vm))
    (hs : swapsWithSole [.Subscript o ie pos'] v pos.line X.env = pure false := by rfl) (hw : swappedStores [.Subscript o ie pos'] v X.env = pure none := by rfl) (h1 : (assignEach [.Subscript o ie pos'] X.env).map (·.2) = [assign (.Subscript o ie pos') X.env] := by rfl)
    (ha : ∀ v, assign (.Subscript o ie pos') X.env v = (do
      let ov ← holding [v] (eval o X.env)
      let iv ← holding [v, ov] (eval ie X.env)
      standAt pos'
      holding [v, ov, iv] (setItem ov iv v)
      release [v, ov, iv] []) := by intro _; rfl) :
    L2.PS X (.Assign [.Subscript o ie pos'] v pos) (tS (cfg X B) W (setI om im vm)) := PS.imp (ps_asg (e_frz hv) (pg_sub ho hi (set_U hu) ha) hs hw h1) fun D σ H h => by
  refine tS_bind h fun F ls vs ks c H' k na R po => ?_
  cases k with
  | dat d =>
    simp only at po
    refine ⟨F, ls, c :: vs, .dat d :: ks, R, ?_⟩
    cases e1 : om ls with
    | stk => simp only [e1, VM.R.bindS, PostS] at po
    | err x ls1 =>
      simp only [e1, VM.R.bindS] at po
      exact fun cls d F' H' r' er => po cls d σ F' H' r'.pop er
    | ok ko ls1 =>
      simp only [e1, VM.R.bindS] at po
      intro a F1 H1 R1
      refine ⟨F1, ls1, a :: c :: vs, ko :: .dat d :: ks, R1, ?_⟩
      cases e2 : im ls1 with
      | stk => simp only [e2, PostS] at po
      | err x ls2 =>
        simp only [e2] at po
        exact fun cls d F' H' r' er => po cls d σ F' H' r'.pop.pop er
      | ok ki ls2 =>
        simp only [e2] at po
        intro b F2 H2 R2
        cases ko with
        | ali j =>
          cases e3 : look ls2 ki with
          | none => simp only [e3, PostS] at po
          | some i =>
            cases e4 : chg j (fun x => setD x i d) ls2 with
            | none => simp only [e3, e4, PostS] at po
            | some ls3 =>
              simp only [e3, e4] at po
              exact set_ok R2 e3 e4 fun H3 R3 => po σ F2 H3 R3
        | _ => simp only [PostS] at po
  | _ => simp only [PostS] at po
def OpMut (G : Cfg) (T : String) (r : V → List V → Hp → VK → Prop) (g : D → List D → Option (D × D)) : Prop :=
  (∀ F H p o d ds q, Ex F H → H p = some o → ObD G F o d → g d ds = some q → tyV G.K T (.ref p) H) ∧
  ∀ F H p o d ws ds d' res (Q : VK), Ex F H → H p = some o → ObD G F o d → DDs G.K G.mg F ds ws → g d ds = some (d', res) → (∀ o' u, ObD G F o' d' → DD G.K G.mg F res u → Q u (upd H p o')) → r (.ref p) ws H Q
def tyAt (ls : LS) (i : Nat) (ty : D → Bool) : Bool := match ls[i]? with
  | some (.own d) => ty d
  | some (.par d) => ty d
  | _ => false
def mutM (ty : D → Bool) (g : D → List D → Option (D × D)) (om : M) (am : AM) : M := fun ls => (om ls).bind fun ko ls => match ko with
  | .ali i => if tyAt ls i ty = true then
      ((am ls).bind fun as ls => match dats as, ls[i]? with
      | some ds, some (.own d) => (match g d ds with
        | some (d', r) => .ok (.dat r) (ls.set i (.own d'))
        | none => .stk)
      | some ds, some (.par d) => (match g d ds with
        | some (d', r) => .ok (.dat r) (ls.set i (.par d'))
        | none => .stk)
      | _, _ => .stk) else .stk
  | _ => .stk
structure TyOk (G : Cfg) (T : String) (ty : D → Bool) : Prop where
  h : ∀ F H p o d, Ex F H → H p = some o → ObD G F o d → ty d = true → tyV G.K T (.ref p) H
def isLst : D → Bool
  | .lst _ => true
  | _ => false
def appG : D → List D → Option (D × D)
  | .lst xs, [d] => if xs.length < lim then some (.lst (xs ++ [d]), .non) else none
  | _, _ => none
def insG : D → List D → Option (D × D)
  | .lst xs, [.int i, d] => if xs.length < lim ∧ 0 ≤ i ∧ i < 2 ^ 63 then some (.lst (xs.take i.toNat ++ [d] ++ xs.drop i.toNat), .non) else none
  | _, _ => none
theorem DDs.take {K : PySem.W.Frag} {mg : Str → Option Value} {F : Hp} : ∀ {ds : List D} {xs : List V} {n : Nat}, DDs K mg F ds xs → DDs K mg F (ds.take n) (xs.take n)
  | _, _, 0, _ => by simp only [List.take_zero]; exact .nil
  | _, _, n + 1, .nil => .nil
  | _, _, n + 1, .cons a r => .cons a (DDs.take r)
theorem DDs.drop {K : PySem.W.Frag} {mg : Str → Option Value} {F : Hp} : ∀ {ds : List D} {xs : List V} {n : Nat}, DDs K mg F ds xs → DDs K mg F (ds.drop n) (xs.drop n)
  | _, _, 0, h => h
  | _, _, n + 1, .nil => .nil
  | _, _, n + 1, .cons a r => DDs.drop (n := n) r
def rInsert : V → List V → Hp → VK → Prop := fun x vs H Q => ∃ (l : Addr) (xs : List V) (i : Int) (y : V), x = .ref l ∧ vs = [.int i, y] ∧ H l = some (.lst xs) ∧ xs.length < sizeLine ∧ 0 ≤ i ∧ i < 2 ^ 63 ∧
    Q .non (upd H l (.lst (xs.take i.toNat ++ [y] ++ xs.drop i.toNat)))
def ownM (d : D) : M := fun ls => .ok (.own d) ls
def chainM (g g' : D → D → Option Slot) (a b c : M) : M := fun ls => (a ls).bind fun k1 ls => (b ls).bind fun k2 ls => match lift2 g k1 k2 ls with
  | .ok (.dat (.bl true)) ls => (c ls).bind fun k3 ls => lift2 g' k2 k3 ls
  | .ok (.dat (.bl false)) ls => .ok (.dat (.bl false)) ls
  | _ => .stk
def cutG {α : Type} (xs : List α) (lo hi : Option Int) : List α := (xs.drop (HT.sIx xs.length 0 lo)).take (HT.sIx xs.length xs.length hi - HT.sIx xs.length 0 lo)
def slD (x : D) (lo hi : Option Int) : Option Slot := match x with
  | .lst xs => some (.own (.lst (cutG xs lo hi)))
  | .tup xs => some (.dat (.tup (cutG xs lo hi)))
  | .str z => if z.length ≤ lim then some (.dat (.str (cutS z lo hi))) else none
  | _ => none
abbrev OM := LS → Option (Option Int × LS)
def noO : OM := fun ls => some (none, ls)
def atO (m : M) : OM := fun ls => match m ls with
  | .ok (.dat (.int i)) ls => some (some i, ls)
  | _ => none
def slM (om : M) (lo hi : OM) : M := fun ls => (om ls).bind fun k ls => match lo ls with
  | some (l, ls) => (match hi ls with
    | some (h, ls) => (match look ls k with
      | some x => (match slD x l h with
        | some k => .ok k ls
        | none => .stk)
      | none => .stk)
    | none => .stk)
  | none => .stk
def tO (G : Cfg) (m : OM) : TO := fun σ H Q => ∃ F ls vs ks, Rp G F H σ ls vs ks ∧ match m ls with
  | some (o, ls') => ∀ F' H', Rp G F' H' σ ls' vs ks → Q o H'
  | none => False
theorem PO.imp {X : Cx} {e : Option Expr} {t t' : TO} (h : L2.PO X e t) (hi : ∀ σ H Q, t' σ H Q → t σ H Q) : L2.PO X e t' := ⟨fun pins s σ H Q I q => h.run pins s σ H Q I (hi σ H Q q)⟩
def rSlU (K : PySem.W.Frag) : V → Option Int → Option Int → Hp → VK → Prop := fun x lo hi H Q => rSlL K x lo hi H Q ∨ rSlA K x lo hi H Q ∨ rSlS x lo hi H Q
theorem SlR.or {X : Cx} {r r' : V → Option Int → Option Int → Hp → VK → Prop} (h : SlR X r) (h' : SlR X r') : SlR X fun x lo hi H Q => r x lo hi H Q ∨ r' x lo hi H Q := fun pins s σ H x v vl vu lo hi sl Q I rx hs pl pu q => q.elim (h pins s σ H x v vl vu lo hi sl Q I rx hs pl pu) (h' pins s σ H x v vl vu lo hi sl Q I rx hs pl pu)
end
end VM
namespace PySem.W
open PySem PySem.Calls PyProof.Rows Builtin
section
variable {prog : Program} {w : World} {A : Around} {E : Value → Shared → Prop} {s : Shared} {K : Frag} {x C f : Addr} {ox : Obj} {od : Option Obj} {v b tb : Value}
end
end PySem.W
namespace VM
open PySem L2
section
variable {X : Cx} {k : Nat} {f C : Addr} {fd : FuncData} {ps : List Str} {sp : Sp} {pins : List (Addr × Obj)} {σ : L2.St} {H : Hp} {s : Shared} {Q : VK} {us : List Value} {vs : List V}
def rInOwn (C : Addr) (sp : Sp) : R2 := fun x y H Q => ∃ a dx fs, y = .ref a ∧ H a = some (.ins C dx fs) ∧ sp [y, x] H (fun v H' => ∃ b, v = .bl b ∧ Q (.bl b) H') E0
def rEqOwn (K : PySem.W.Frag) (C : Addr) (sp : Sp) : R2 := fun x y H Q => ∃ a dx fs tb, x = .ref a ∧ H a = some (.ins C dx fs) ∧ TyX K H y tb ∧ PySem.W.notFirst K C tb = true ∧ sp [x, y] H (fun v H' => ∃ b, v = .bl b ∧ Q (.bl b) H') E0
def rLenOwn (C : Addr) (sp : Sp) : List V → Hp → VK → Prop := fun xs H Q => ∃ a dx fs, xs = [.ref a] ∧ H a = some (.ins C dx fs) ∧ sp [.ref a] H (fun v H' => ∃ n : Int, v = .int n ∧ 0 ≤ n ∧ n < 2 ^ 63 ∧ Q (.int n) H') E0
end
def inO (xs : List Str) (f : List Slot → RF) (g : Bool → Bool) (a b : M) : M := fun ls => (a ls).bind fun k1 ls => (b ls).bind fun k2 ls => match look ls k2 with
  | some (.ins y _) => if y ∈ xs then (match callK f [k2, k1] ls with
    | .ok (.dat (.bl t)) ls => .ok (.dat (.bl (g t))) ls
    | _ => .stk) else .stk
  | _ => .stk
def eqO (xs : List Str) (f : List Slot → RF) (g : Bool → Bool) (ok : D → Bool) (a b : M) : M := fun ls => (a ls).bind fun k1 ls => (b ls).bind fun k2 ls => match look ls k1, look ls k2 with
  | some (.ins y _), some d => if y ∈ xs ∧ ok d = true then (match callK f [k1, k2] ls with
    | .ok (.dat (.bl t)) ls => .ok (.dat (.bl (g t))) ls
    | _ => .stk) else .stk
  | _, _ => .stk
def lenO (xs : List Str) (f : List Slot → RF) (a : AM) : M := fun ls => (a ls).bind fun ks ls => match ks with
  | [k] => (match look ls k with
    | some (.ins y _) => if y ∈ xs then (match callK f [k] ls with
      | .ok (.dat (.int n)) ls => if 0 ≤ n ∧ n < 2 ^ 63 then .ok (.dat (.int n)) ls else .stk
      | _ => .stk) else .stk
    | _ => .stk)
  | _ => .stk
structure ClsAt (K : PySem.W.Frag) (mg : Str → Option Value) (C : Addr) (xs : List Str) : Prop where
  h : ∀ y ∈ xs, mg y = some (.ref C)
structure EqOk (K : PySem.W.Frag) (mg : Str → Option Value) (C : Addr) (ok : D → Bool) : Prop where
  b : ∀ d t, ok d = true → tyD d = some t → PySem.W.notFirst K C (.type t) = true
  t : ∀ d, ok d = true → (tyD d).isSome = true ∨ ∃ y gs, d = .ins y gs
  c : ∀ y gs, ok (.ins y gs) = true → ∃ C', mg y = some (.ref C') ∧ InsOk K C' ∧ PySem.W.notFirst K C (.ref C') = true
theorem EqOk.ty {G : Cfg} {C : Addr} {ok : D → Bool} (e : EqOk G.K G.mg C ok) {F H : Hp} (x : Ex F H) {v : V} {d : D} (h : Vw G F H v d) (hd : ok d = true) : ∃ tb, TyX G.K H v tb ∧ PySem.W.notFirst G.K C tb = true := by
  rcases e.t d hd with z | ⟨y, gs, rfl⟩
  · obtain ⟨t, ht⟩ := Option.isSome_iff_exists.mp z
    exact ⟨_, tyD_vw x h ht, e.b d t hd ht⟩
  · obtain ⟨a, C1, dx, fs, rfl, hm, ha, _⟩ := Vw.ins x h
    obtain ⟨C', h1, h2, h3⟩ := e.c y gs hd
    obtain rfl : C' = C1 := by
      have z := h1.symm.trans hm
      cases z; rfl
    exact ⟨_, .base (.ins ha h2.cl h2.ha h2.hn h2.htk h2.hm), h3⟩
section
variable {X : Cx} {B : Base} {W : WX} {a b e : Expr} {ma mb : M} {am : AM} {k : Nat} {f C : Addr} {fd : FuncData} {ps : List Str} {g : List Slot → RF} {xs : List Str} {pos p : Pos} {ok : D → Bool}
def blF (g : Bool → Bool) : D → Option D
  | .bl t => some (.bl (g t))
  | _ => none
def lenF : D → Option D
  | .int n => if 0 ≤ n ∧ n < 2 ^ 63 then some (.int n) else none
  | _ => none
end
end VM
namespace L2
open PySem PySem.Spec PyProof.Rows
section
variable {X : Cx}
def tDcG (o0 : HO) (wi : TI) (g : TG) (tt : TT) (tk tv : TE) (vs : List Nat) : TE := fun σ H Q => wi σ H fun J H1 => ∀ D, H1 D = none → ∃ W : Nat → Nat → Hp → Prop, (∃ m, W 0 m (upd H1 D o0)) ∧ ∀ i m H, W i m H →
  (J.stop i H ∧ Q (.ref D) H) ∨ (J.go i H ∧ ∃ Nx : Hp → Prop, (∀ H', Nx H' → ∃ m', m' < m ∧ W (i + 1) m' H') ∧ ∀ x H', J.yld i H x H' → g x (wipe σ vs) H' fun σ2 H2 => wipe σ2 vs = wipe σ vs ∧ tt σ2 H2 fun b H3 =>
    if b = true then tk σ2 H3 fun y H4 => tv σ2 H4 fun z H5 => ∃ H6, DPut H5 D y z H6 ∧ Nx H6 else Nx H3)
end
end L2
namespace VM
open PySem L2
def putD (x i v : D) : Option D := match x with
  | .dK es => if es.length < lim then (keyK i).map fun k => .dK (putG es k v) else none
  | .dT es => if es.length < lim then (keyT i).map fun k => .dT (putG es k v) else none
  | _ => none
def dcL (own : List Nat) (g : Gd) (tg : TgM) (t mk mv : M) : List D → LS → D → R
  | [], ls, acc => if gOk g ls = true then .ok (.own acc) ls else .stk
  | d :: ds, ls, acc => if gOk g ls = true then (match tg d ls with
    | some ls1 => (match t ls1 with
      | .ok (.dat (.bl true)) ls2 => (match mk ls2 with
        | .ok (.dat kd) ls3 => (match mv ls3 with
          | .ok kv ls4 => (match freezeK kv ls4 with
            | some (vd, ls5) => (match putD acc kd vd with
              | some acc' => dcL own g tg t mk mv ds (wipeL ls5 own) acc'
              | none => .stk)
            | none => .stk)
          | _ => .stk)
        | _ => .stk)
      | .ok (.dat (.bl false)) ls2 => dcL own g tg t mk mv ds (wipeL ls2 own) acc
      | _ => .stk)
    | none => .stk) else .stk
def dcM (own : List Nat) (src : IM) (tg : TgM) (t mk mv : M) (d0 : D) : M := fun ls => match src ls with
  | .ok items g ls => if empAt ls own then dcL own g tg t mk mv items ls d0 else .stk
  | .err x ls => .err x ls
  | .stk => .stk
section
variable {X : Cx} {B : Base} {W : WX} {im : IM} {t : TgM} {mt mk mv : M} {own is : List Nat}
variable {kx vx tg iter c : Expr} {scope : Scope} {ow : List (Str × Nat)} {pos : Pos}
end
end VM
set_option maxHeartbeats 4000000
namespace L2
open PySem PySem.Spec PyProof.Rows SrtO Srt
def pairOf (H : Hp) : Value → Int × Int
  | .ref b => (match H b with
    | some (.tup [.int x, .int y]) => (x, y)
    | _ => (0, 0))
  | _ => (0, 0)
def PairAt (H : Hp) (q : Int × Int) (b : Addr) : Prop := H b = some (.tup [.int q.1, .int q.2])
section
variable {X : Cx}
def pk (q : Int × Int) : List Key := [.inl q.1, .inl q.2]
def rSortT : List V → Hp → VK → Prop := fun xs H Q => ∃ d kvs ps, xs = [V.ref d] ∧ Rd H d (.dT kvs) ∧ kvs.map (·.1) = ps.map pk ∧
  ∀ p bs (out : List (Int × Int)), H p = none → out.Perm ps → Srtd lexB out → Paired (PairAt H) out bs → Q (.ref p) (upd H p (.lst (bs.map V.ref)))
end
end L2
namespace VM
open PySem L2
open SrtO (lexB)
def sortP (ps : List (Int × Int)) : List (Int × Int) := ps.mergeSort fun p q => !lexB q p
def prs : List (List Key) → Option (List (Int × Int))
  | [] => some []
  | [.inl a, .inl b] :: r => (prs r).map ((a, b) :: ·)
  | _ => none
def tupP (q : Int × Int) : D := .tup [.int q.1, .int q.2]
def sortD : List D → Option Slot
  | [.dT es] => (prs (es.map (·.1))).map fun ps => .own (.lst ((sortP ps).map tupP))
  | _ => none
end VM
namespace VM
open PySem PySem.Spec L2
abbrev Frag := PySem.W.Frag
def gA (x : Str) : Frag → Addr := fun K => He.ga K x
def mA (c m : Str) : Frag → Addr := fun K => He.ma K (He.ga K c) m
def pA (c f : Str) : Frag → Addr := fun K => match PySem.W.recIn K (mA c f K) "property" with
  | some (.ref g :: _) => g
  | _ => 0
structure Df where
  a : Frag → Addr
  name : Str
  qual : Str
  st : Stmt
abbrev FnV : Type := Option (Str × Str × Arguments × FuncBody × Scope × Addr × List (Str × Addr) × Value × Addr)
def fnV (K : Frag) (a : Addr) : FnV := match K.lookup a with
  | some ⟨_, _, .func fd, _⟩ => some (fd.name, fd.qualname, fd.params, fd.body, fd.scope, fd.globals, fd.closure, fd.defaults, fd.builtins)
  | _ => none
def fdV (K : Frag) (a : Addr) : Option FuncData := match K.lookup a with
  | some ⟨_, _, .func fd, _⟩ => some fd
  | _ => none
def Df.val (d : Df) : FnV := some (d.name, d.qual, defArgs d.st, .stmts (defBody d.st), defScope d.st, mainGlobals, [], .none, builtinsNs)
def Df.ok (K : Frag) (d : Df) : Bool := PySem.W.keepIn K (.ref (d.a K)) && (match K.lookup (d.a K) with
  | some ⟨_, _, .func fd, _⟩ => PySem.W.codeIn K fd.code d.qual
  | _ => false)
theorem Df.fun_ {K : Frag} {d : Df} (e : fnV K (d.a K) = d.val) (c : d.ok K = true) : ∃ fd, fdV K (d.a K) = some fd ∧ L2.Fun K d.name d.qual d.st (d.a K) fd := by
  obtain ⟨kp, c2⟩ := He.ba c
  unfold fnV at e
  unfold fdV
  cases q : K.lookup (d.a K) with
  | none => rw [q] at c2; cases c2
  | some o =>
    obtain ⟨oc, od, dt, osl⟩ := o
    rw [q] at c2 e
    cases dt with
    | func fd =>
      obtain ⟨n1, n2, n3, n4, n5, n6, n7, n8, n9, n10, n11, n12, n13, n14, n15⟩ := fd
      have e2 : (some (n1, n2, n3, n4, n5, n6, n7, n8, n15) : FnV) = some (d.name, d.qual, defArgs d.st, .stmts (defBody d.st), defScope d.st, mainGlobals, [], .none, builtinsNs) := e
      simp only [Option.some.injEq, Prod.mk.injEq] at e2
      obtain ⟨h1, h2, h3, h4, h5, h6, h7, h8, h9⟩ := e2
      subst h1 h2 h3 h4 h5 h6 h7 h8 h9
      exact ⟨_, rfl, ⟨⟨oc, od, _, _, _, _, _, _, osl, rfl, q, c2⟩, kp⟩⟩
    | _ => cases c2
theorem all_at {K : Frag} {l : List (Frag → Bool)} (h : (l.all fun f => f K) = true) (i : Nat) {f : Frag → Bool} (e : l[i]? = some f) : f K = true := List.all_eq_true.mp h f (List.mem_of_getElem? e)
abbrev AlV : Type := Bool × List FnV
def obsV (bk : List (Frag → Bool)) (fn : List Df) (K : Frag) : AlV := ((bk.all fun f => f K) && (fn.all fun d => d.ok K), fn.map fun d => fnV K (d.a K))
def valV (fn : List Df) : AlV := (true, fn.map Df.val)
def SaysV (bk : List (Frag → Bool)) (fn : List Df) (K : Frag) : Prop := obsV bk fn K = valV fn
def obsVG (n : Nat) (bk : List (Frag → Bool)) (fn : List Df) (g : Addr → Option Obj) : AlV := obsV bk fn (He.frG g (He.asD g n))
def hookV (n : Nat) (bk : List (Frag → Bool)) (fn : List Df) : PySem.W.Hook where
  α := AlV
  obs := fun s => obsVG n bk fn s.heap.get?
  val := fun _ => valV fn
  says := fun _ h => ∃ K : Frag, K.In h ∧ SaysV bk fn K
  of := fun _ _ e => ⟨_, He.frG_in, e⟩
  keeps := fun _ _ _ ⟨K, hK, c⟩ k => ⟨K, PySem.W.Frag.In.keeps hK k, c⟩
section
variable {bk : List (Frag → Bool)} {fn : List Df} {K : Frag} {mg : Str → Option Value} {h : Heap}
theorem SaysV.bkAt (c : SaysV bk fn K) (i : Nat) {f : Frag → Bool} (e : bk[i]? = some f := by rfl) : f K = true :=
  all_at (He.ba (congrArg (fun z : AlV => z.1) c)).1 i e
theorem SaysV.fnAt (c : SaysV bk fn K) (i : Nat) {d : Df} (e : fn[i]? = some d := by rfl) : ∃ fd, fdV K (d.a K) = some fd ∧ L2.Fun K d.name d.qual d.st (d.a K) fd := by
  have h1 := (He.ba (congrArg (fun z : AlV => z.1) c)).2
  have h2 : fn.map (fun d => fnV K (d.a K)) = fn.map Df.val := congrArg (fun z : AlV => z.2) c
  have h3 : (fn.map fun d => fnV K (d.a K))[i]? = (fn.map Df.val)[i]? := by rw [h2]
  rw [List.getElem?_map, List.getElem?_map, e] at h3
  exact Df.fun_ (Option.some.inj h3) (List.all_eq_true.mp h1 d (List.mem_of_getElem? e))
end
def kGlo (x : Str) : Frag → Bool := fun K => He.eqO (PySem.W.nsIn K mainGlobals x) (some (some (.ref (gA x K))))
def kFree (x : Str) : Frag → Bool := fun K => He.eqO (PySem.W.nsIn K mainGlobals x) (some none)
def kInt (x : Str) (i : Int) : Frag → Bool := fun K => He.Fa.ok K (.int x i)
def kStr (x z : Str) : Frag → Bool := fun K => He.Fa.ok K (.str x z)
def kCls (x : Str) : Frag → Bool := fun K => He.Fa.ok K (.cls x)
def kNoat (x f : Str) : Frag → Bool := fun K => He.Fa.ok K (.noat x f)
def kMeth (x m : Str) : Frag → Bool := fun K => He.Fa.ok K (.meth x m)
def kMkr (x : Str) : Frag → Bool := fun K => He.Fa.ok K (.mkr x)
def kExc (x : Str) : Frag → Bool := fun K => He.Fa.ok K (.exc x)
def kExm (x y : Str) (b : Bool) : Frag → Bool := fun K => He.Fa.ok K (.exm x y b)
def kKeep (a : Frag → Addr) : Frag → Bool := fun K => PySem.W.keepIn K (.ref (a K))
def kProp (x f : Str) : Frag → Bool := fun K => He.eqO (PySem.W.findIn K (.ref (gA x K)) f) (some (some (.ref (mA x f K)))) && (He.eqO (PySem.W.specialIn K (.ref (mA x f K)) "__get__") (some (some (.builtin "property.__get__"))) && (decide (PySem.W.takesIn K (.ref (mA x f K)) = some true) &&
  (match PySem.W.recIn K (mA x f K) "property" with
  | some (.ref _ :: _) => true
  | _ => false)))
def kIns (x : Str) : Frag → Bool := fun K => He.Fa.ok K (.cls x) && (He.eqO (PySem.W.findIn K (.ref (gA x K)) "__class__") (some (some (.builtin "object.__class__"))) && (He.eqO (PySem.W.specialIn K (.builtin "object.__class__") "__get__") (some (some (.builtin "getset_descriptor.__get__"))) &&
  (decide (PySem.W.takesIn K (.builtin "object.__class__") = some true) && decide (PySem.W.mroIn K (gA x K) (.type "object") = some true))))
def kKit (t u : Frag → Value) (b : Bool) : Frag → Bool := fun K => decide (PySem.W.kitOne K (t K) (u K) = some b)
def kNf (x : Str) (t : Frag → Value) : Frag → Bool := fun K => PySem.W.notFirst K (gA x K) (t K)
def kNe (x : Str) : Frag → Bool := fun K => He.eqO (PySem.W.findIn K (.ref (gA x K)) "__ne__") (some (some (.builtin "object.__ne__"))) && decide (PySem.W.mroIn K (gA x K) (.type "object") = some true)
def oexB (K : Frag) (C : Addr) : Bool := (match K.lookup C with
  | some ⟨.type "type", _, .cls cd, sl⟩ => (match cd.mro, sl.toList with
    | .ref C' :: bm, [_, _, _, _, some (.builtin n), _] => C' == C && n == "ValueError.__new__" && !cd.hasDel && cd.hasDict && PySem.HandSPX.refsVE bm
    | _, _ => false)
  | _ => false) && (He.eqO (PySem.W.findIn K (.ref C) "__setattr__") (some (some (.builtin "object.__setattr__"))) && (decide (PySem.W.subIn K (.ref C) (.type "BaseException") = some true) && (decide (PySem.W.typeIn K (.ref C) = some (.type "type")) && PySem.W.keepIn K (.ref C))))
theorem oexB_ok {K : Frag} {C : Addr} (h : oexB K C = true) : OexC K C := by
  obtain ⟨h1, h⟩ := He.ba h
  obtain ⟨h2, h⟩ := He.ba h
  obtain ⟨h3, h⟩ := He.ba h
  obtain ⟨h4, h5⟩ := He.ba h
  refine ⟨?_, He.eqO_ok h2, of_decide_eq_true h3, of_decide_eq_true h4, h5⟩
  split at h1
  · rename_i dd cd sl ho
    split at h1
    · rename_i C' bm k0 k1 k2 k3 n k5 hm hs
      simp only [Bool.and_eq_true, beq_iff_eq, Bool.not_eq_true'] at h1
      obtain ⟨⟨⟨⟨rfl, rfl⟩, hdel⟩, hdict⟩, hv⟩ := h1
      obtain ⟨nm, bs, mro, ns, qn, hd, sn, sub, ab, col, del⟩ := cd
      dsimp only at hm hdel hdict
      subst hm hdel hdict
      have hsl : sl = #[k0, k1, k2, k3, some (.builtin "ValueError.__new__"), k5] := by
        obtain ⟨l⟩ := sl
        simp only at hs
        rw [hs]
      subst hsl
      exact ⟨nm, qn, ns, bs, bm, sn, sub, ab, col, dd, k0, k1, k2, k3, k5, ho, hv⟩
    · cases h1
  · cases h1
def kOex (x : Str) : Frag → Bool := fun K => oexB K (gA x K)
def kXf (x : Str) : Frag → Bool := fun K => xfB K (gA x K)
def kInit (x : Str) : Frag → Bool := fun K => He.eqO (PySem.W.findIn K (.ref (gA x K)) "__init__") (some (some (.ref (mA x "__init__" K)))) && decide (PySem.W.typeIn K (.ref (mA x "__init__" K)) = some (.type "function"))
structure Hd (bk : List (Frag → Bool)) (fn : List Df) (K : Frag) (mg : Str → Option Value) : Prop where
  c : SaysV bk fn K
  g : ∃ h : Heap, K.In h ∧ h.Ns mainGlobals mg
section
variable {bk : List (Frag → Bool)} {fn : List Df} {K : Frag} {mg : Str → Option Value}
theorem Hd.glo (c : Hd bk fn K mg) (i : Nat) {x : Str} (e : bk[i]? = some (kGlo x) := by rfl) : mg x = some (.ref (gA x K)) := by
  obtain ⟨h, X, G⟩ := c.g
  exact He.glo_ok X G (c.c.bkAt i e)
theorem Hd.free (c : Hd bk fn K mg) (i : Nat) {x : Str} (e : bk[i]? = some (kFree x) := by rfl) : mg x = none := by
  obtain ⟨h, X, G⟩ := c.g
  exact He.free_ok X G (c.c.bkAt i e)
theorem Hd.int (c : Hd bk fn K mg) (i : Nat) {x : Str} {j : Int} (e : bk[i]? = some (kInt x j) := by rfl) : ∃ t, mg x = some (.int j t) := by
  obtain ⟨h, X, G⟩ := c.g
  exact He.int_ok X G (c.c.bkAt i e)
theorem Hd.str (c : Hd bk fn K mg) (i : Nat) {x z : Str} (e : bk[i]? = some (kStr x z) := by rfl) : ∃ t, mg x = some (.str z t) := by
  obtain ⟨h, X, G⟩ := c.g
  exact He.str_ok X G (c.c.bkAt i e)
theorem Hd.cls (c : Hd bk fn K mg) (i : Nat) {x : Str} (e : bk[i]? = some (kCls x) := by rfl) : Cls K (gA x K) := He.cls_ok (c.c.bkAt i e)
theorem Hd.noat (c : Hd bk fn K mg) (i : Nat) {x f : Str} (e : bk[i]? = some (kNoat x f) := by rfl) : NoAttr K (gA x K) f := He.noat_ok (c.c.bkAt i e)
theorem Hd.meth (c : Hd bk fn K mg) (i : Nat) {x m : Str} (e : bk[i]? = some (kMeth x m) := by rfl) : Meth K (gA x K) m (mA x m K) := He.meth_ok (c.c.bkAt i e)
theorem Hd.mkr (c : Hd bk fn K mg) (i : Nat) {x : Str} (e : bk[i]? = some (kMkr x) := by rfl) : Mk K (gA x K) (mA x "__init__" K) := He.mkr_ok (c.c.bkAt i e)
theorem Hd.exc (c : Hd bk fn K mg) (i : Nat) {x : Str} (e : bk[i]? = some (kExc x) := by rfl) : PySem.W.excIn K (gA x K) He.veBase "ValueError.__new__" = true ∧ PySem.W.keepIn K (.ref (gA x K)) = true ∧ PySem.W.subIn K (.ref (gA x K)) (.type "BaseException") = some true ∧ PySem.W.typeIn K (.ref (gA x K)) = some (.type "type") := He.exc_ok (c.c.bkAt i e)
theorem Hd.exm (c : Hd bk fn K mg) (i : Nat) {x y : Str} {b : Bool} (e : bk[i]? = some (kExm x y b) := by rfl) : PySem.W.exmOne K (.ref (gA x K)) (.ref (gA y K)) = some b := He.exm_ok (c.c.bkAt i e)
theorem Hd.keep (c : Hd bk fn K mg) (i : Nat) {a : Frag → Addr} (e : bk[i]? = some (kKeep a) := by rfl) : PySem.W.keepIn K (.ref (a K)) = true := c.c.bkAt i e
theorem Hd.ins (c : Hd bk fn K mg) (i : Nat) {x : Str} (e : bk[i]? = some (kIns x) := by rfl) : InsOk K (gA x K) := by
  obtain ⟨h1, h⟩ := He.ba (c.c.bkAt i e)
  obtain ⟨h2, h⟩ := He.ba h
  obtain ⟨h3, h⟩ := He.ba h
  obtain ⟨h4, h5⟩ := He.ba h
  exact ⟨He.cls_ok h1, He.eqO_ok h2, He.eqO_ok h3, of_decide_eq_true h4, of_decide_eq_true h5⟩
theorem Hd.kit (c : Hd bk fn K mg) (i : Nat) {t u : Frag → Value} {b : Bool} (e : bk[i]? = some (kKit t u b) := by rfl) : PySem.W.kitOne K (t K) (u K) = some b := of_decide_eq_true (c.c.bkAt i e)
theorem Hd.ne (c : Hd bk fn K mg) (i : Nat) {x : Str} (e : bk[i]? = some (kNe x) := by rfl) : PySem.W.findIn K (.ref (gA x K)) "__ne__" = some (some (.builtin "object.__ne__")) ∧ PySem.W.mroIn K (gA x K) (.type "object") = some true :=
  ⟨He.eqO_ok (He.ba (c.c.bkAt i e)).1, of_decide_eq_true (He.ba (c.c.bkAt i e)).2⟩
theorem Hd.oex (c : Hd bk fn K mg) (i : Nat) {x : Str} (e : bk[i]? = some (kOex x) := by rfl) : OexC K (gA x K) := oexB_ok (c.c.bkAt i e)
theorem Hd.init (c : Hd bk fn K mg) (i : Nat) {x : Str} (e : bk[i]? = some (kInit x) := by rfl) : PySem.W.findIn K (.ref (gA x K)) "__init__" = some (some (.ref (mA x "__init__" K))) ∧ PySem.W.typeIn K (.ref (mA x "__init__" K)) = some (.type "function") :=
  ⟨He.eqO_ok (He.ba (c.c.bkAt i e)).1, of_decide_eq_true (He.ba (c.c.bkAt i e)).2⟩
theorem Hd.fnAt (c : Hd bk fn K mg) (i : Nat) {d : Df} (e : fn[i]? = some d := by rfl) : ∃ fd, fdV K (d.a K) = some fd ∧ L2.Fun K d.name d.qual d.st (d.a K) fd := c.c.fnAt i e
end
theorem room_u {k : Nat} {A : Around} (hr : Room k A) : A.units + 65 < cLine := by have := hr.un; omega
theorem room_v {k : Nat} {A : Around} (hr : Room k A) : A.units + 1 < cLine := by have := hr.un; omega
def tbInt : D → Option Bool
  | .int _ => some true
  | .bl _ => some true
  | .ins _ _ => none
  | .scr _ => none
  | .ktup _ => none
  | .exc _ _ => none
  | .dT _ => none
  | _ => some false
def tbBool : D → Option Bool
  | .bl _ => some true
  | .ins _ _ => none
  | .scr _ => none
  | .ktup _ => none
  | .exc _ _ => none
  | .dT _ => none
  | _ => some false
def tbStr : D → Option Bool
  | .str _ => some true
  | .ins _ _ => none
  | .scr _ => none
  | .ktup _ => none
  | .exc _ _ => none
  | .dT _ => none
  | _ => some false
def tbTuple : D → Option Bool
  | .tup _ => some true
  | .ins _ _ => none
  | .scr _ => none
  | .ktup _ => none
  | .exc _ _ => none
  | .dT _ => none
  | _ => some false
def tbList : D → Option Bool
  | .lst _ => some true
  | .ins _ _ => none
  | .scr _ => none
  | .ktup _ => none
  | .exc _ _ => none
  | .dT _ => none
  | _ => some false
def tbNo : D → Option Bool
  | .ins _ _ => none
  | .scr _ => none
  | .ktup _ => none
  | .exc _ _ => none
  | .dT _ => none
  | _ => some false
end VM
set_option maxHeartbeats 1000000
namespace VM
open PySem PySem.Spec L2 PyProof.Rows
def kwdB (K : Frag) (a : Addr) (x : Str) (ok : Value → Bool) : Bool := match fdV K a with
  | some fd => (match fd.kwdefaults with
    | .ref D => (match PySem.W.nsIn K D x with
      | some (some u) => ok u
      | _ => false)
    | _ => false)
  | none => false
def okInt (i : Int) : Value → Bool
  | .int j _ => decide (j = i)
  | _ => false
def kKwd (a : Frag → Addr) (x : Str) (i : Int) : Frag → Bool := fun K => kwdB K (a K) x (okInt i)
def kSelf (x : Str) : Frag → Bool := fun K => PySem.W.selfFirst K (gA x K)
def rcB : Option (Option Value) → Bool
  | some none => true
  | some (some (.ref _)) => true
  | _ => false
def kOpI (x : Str) (o : String) : Frag → Bool := fun K => rcB (PySem.W.findIn K (.ref (gA x K)) (dunderR o)) && ((PySem.W.findIn K (.type "int") (PySem.dunder o)).isSome && ((PySem.W.findIn K (.type "int") (dunderR o)).isSome && decide (PySem.W.subIn K (.type "int") (.ref (gA x K)) = some false)))
structure OpI (K : Frag) (C : Addr) (o : String) : Prop where
  rc : ∃ rc, PySem.W.findIn K (.ref C) (dunderR o) = some rc ∧ (rc = none ∨ ∃ g : Addr, rc = some (.ref g))
  fo : ∃ fo, PySem.W.findIn K (.type "int") (PySem.dunder o) = some fo
  ro : ∃ ro, PySem.W.findIn K (.type "int") (dunderR o) = some ro
  sub : PySem.W.subIn K (.type "int") (.ref C) = some false
def kSubI (x : Str) : Frag → Bool := fun K => decide (PySem.W.subIn K (.ref (gA x K)) (.type "int") = some false)
section
variable {bk : List (Frag → Bool)} {fn : List Df} {K : Frag} {mg : Str → Option Value}
theorem Hd.self (c : Hd bk fn K mg) (i : Nat) {x : Str} (e : bk[i]? = some (kSelf x) := by rfl) : PySem.W.selfFirst K (gA x K) = true := c.c.bkAt i e
end
end VM
namespace VM
open PySem PySem.W PySem.Spec L2 HandSHeadRun
def hookA (as : List Addr) (bk : List (Frag → Bool)) (fn : List Df) : PySem.W.Hook where
  α := AlV
  obs := fun s => obsV bk fn (He.frG s.heap.get? as)
  val := fun _ => valV fn
  says := fun _ h => ∃ K : Frag, K.In h ∧ SaysV bk fn K
  of := fun _ _ e => ⟨_, He.frG_in, e⟩
  keeps := fun _ _ _ ⟨K, hK, c⟩ k => ⟨K, PySem.W.Frag.In.keeps hK k, c⟩
theorem obsA_eq {as : List Addr} {bk : List (Frag → Bool)} {fn : List Df} {g : Addr → Option Obj} {s : Shared} (h : ∀ a, g a = s.heap.get? a) : obsV bk fn (He.frG g as) = (hookA as bk fn).obs s := by
  have e : g = s.heap.get? := funext h
  rw [e]; rfl
end VM
namespace VM
open PySem PySem.Spec L2 PyProof.Rows
def tup0B (K : Frag) (b : Addr) : Bool := match K.lookup b with
  | some ⟨.type t, _, .seq its _, _⟩ => t == "tuple" && decide (its.toList.length = 0)
  | _ => false
def okTup0 (K : Frag) : Value → Bool
  | .ref b => tup0B K b
  | _ => false
def kKwt (a : Frag → Addr) (x : Str) : Frag → Bool := fun K => kwdB K (a K) x (okTup0 K)
def stA (c m : Str) : Frag → Addr := fun K => match PySem.W.recIn K (mA c m K) "staticmethod" with
  | some (.ref g :: _) => g
  | _ => 0
def kSta (c m : Str) : Frag → Bool := fun K => (match PySem.W.findCls K (.ref (gA c K)) (.type "type") m with
  | some (.get (.builtin n) (.ref p) .none (.ref C)) => n == "staticmethod.__get__" && (p == mA c m K && C == gA c K)
  | _ => false) && (PySem.W.readsIn K (gA c K) (.type "type") && (He.eqO (PySem.W.specialIn K (.ref (gA c K)) "__getattribute__") (some (some (.builtin "type.__getattribute__"))) && ((match PySem.W.recIn K (mA c m K) "staticmethod" with
  | some (.ref _ :: _) => true
  | _ => false) && (PySem.W.keepIn K (.ref (stA c m K)) && PySem.W.handedIn (.ref (stA c m K))))))
structure SMet (K : Frag) (C : Addr) (m : Str) (p g : Addr) : Prop where
  at_ : PySem.W.findCls K (.ref C) (.type "type") m = some (.get (.builtin "staticmethod.__get__") (.ref p) .none (.ref C))
  rd : PySem.W.readsIn K C (.type "type") = true
  ga : PySem.W.specialIn K (.ref C) "__getattribute__" = some (some (.builtin "type.__getattribute__"))
  rc : ∃ rest, PySem.W.recIn K p "staticmethod" = some (.ref g :: rest)
  kp : PySem.W.keepIn K (.ref g) = true
  hd : PySem.W.handedIn (.ref g) = true
def erIB (K : Frag) (x : Str) : Bool := kGlo x K && (xfB K (gA x K) && (He.eqO (PySem.W.findIn K (.ref (gA x K)) "__class__") (some (some (.builtin "object.__class__"))) && (He.eqO (PySem.W.specialIn K (.builtin "object.__class__") "__get__") (some (some (.builtin "getset_descriptor.__get__"))) &&
  (decide (PySem.W.takesIn K (.builtin "object.__class__") = some true) && decide (PySem.W.mroIn K (gA x K) (.type "object") = some true)))))
def kErI (xs : List Str) : Frag → Bool := fun K => xs.all (erIB K)
def kErT (u : Frag → Value) (xs : List Str) (t : Str → Bool) : Frag → Bool := fun K => xs.all fun x => decide (PySem.W.kitOne K (.ref (gA x K)) (u K) = some (t x))
section
variable {bk : List (Frag → Bool)} {fn : List Df} {K : Frag} {mg : Str → Option Value}
theorem Hd.erI (c : Hd bk fn K mg) (i : Nat) {xs : List Str} (e : bk[i]? = some (kErI xs) := by rfl) {x : Str} (hx : x ∈ xs) : mg x = some (.ref (gA x K)) ∧ XfC K (gA x K) ∧ ExcC K (gA x K) := by
  have z : erIB K x = true := List.all_eq_true.mp (c.c.bkAt i e) x hx
  obtain ⟨h1, z⟩ := He.ba z
  obtain ⟨h2, z⟩ := He.ba z
  obtain ⟨h3, z⟩ := He.ba z
  obtain ⟨h4, z⟩ := He.ba z
  obtain ⟨h5, h6⟩ := He.ba z
  obtain ⟨h, X, G⟩ := c.g
  have f := xfB_ok h2
  exact ⟨He.glo_ok X G h1, f, f.ga, f.gg, f.exC, f.hdC, He.eqO_ok h3, He.eqO_ok h4, of_decide_eq_true h5, of_decide_eq_true h6⟩
theorem Hd.erT (c : Hd bk fn K mg) (i : Nat) {u : Frag → Value} {xs : List Str} {t : Str → Bool} (e : bk[i]? = some (kErT u xs t) := by rfl) {x : Str} (hx : x ∈ xs) : PySem.W.kitOne K (.ref (gA x K)) (u K) = some (t x) :=
  of_decide_eq_true (List.all_eq_true.mp (c.c.bkAt i e) x hx)
end
end VM
set_option maxHeartbeats 4000000
namespace VM
open PySem PySem.Spec L2
abbrev pr : Program := PySem.Challenge.pw_runledger_k73_errors_and_fields
def top (i : Nat) : Stmt := pr.main.body.getD i (.Pass ⟨0, 0, 0, 0⟩)
def inner (st : Stmt) (j : Nat) : Stmt := match st with
  | .ClassDef _ _ _ body _ _ _ _ _ _ _ => body.getD j (.Pass ⟨0, 0, 0, 0⟩)
  | _ => st
theorem pt_w {X : Cx} {e : Expr} {t : TT} (h : L2.PW X e t) : L2.PT X e t := h.pt
abbrev s_BadCount___init__ : Stmt := inner (top 11) 0
def d_BadCount___init__ : Df := ⟨mA "BadCount" "__init__", "__init__", "BadCount.__init__", s_BadCount___init__⟩
abbrev s_BadEntry___init__ : Stmt := inner (top 14) 0
def d_BadEntry___init__ : Df := ⟨mA "BadEntry" "__init__", "__init__", "BadEntry.__init__", s_BadEntry___init__⟩
abbrev s_BadJump___init__ : Stmt := inner (top 3) 0
def d_BadJump___init__ : Df := ⟨mA "BadJump" "__init__", "__init__", "BadJump.__init__", s_BadJump___init__⟩
abbrev s_BadProgram___init__ : Stmt := inner (top 25) 0
def d_BadProgram___init__ : Df := ⟨mA "BadProgram" "__init__", "__init__", "BadProgram.__init__", s_BadProgram___init__⟩
abbrev s_BadText___init__ : Stmt := inner (top 27) 0
def d_BadText___init__ : Df := ⟨mA "BadText" "__init__", "__init__", "BadText.__init__", s_BadText___init__⟩
abbrev s_NoBlock___init__ : Stmt := inner (top 5) 0
def d_NoBlock___init__ : Df := ⟨mA "NoBlock" "__init__", "__init__", "NoBlock.__init__", s_NoBlock___init__⟩
abbrev s_NoItem___init__ : Stmt := inner (top 8) 0
def d_NoItem___init__ : Df := ⟨mA "NoItem" "__init__", "__init__", "NoItem.__init__", s_NoItem___init__⟩
abbrev s_NoJump___init__ : Stmt := inner (top 6) 0
def d_NoJump___init__ : Df := ⟨mA "NoJump" "__init__", "__init__", "NoJump.__init__", s_NoJump___init__⟩
abbrev s_NoMark___init__ : Stmt := inner (top 26) 0
def d_NoMark___init__ : Df := ⟨mA "NoMark" "__init__", "__init__", "NoMark.__init__", s_NoMark___init__⟩
abbrev s_NoRun___init__ : Stmt := inner (top 7) 0
def d_NoRun___init__ : Df := ⟨mA "NoRun" "__init__", "__init__", "NoRun.__init__", s_NoRun___init__⟩
abbrev s_NotEnough___init__ : Stmt := inner (top 16) 0
def d_NotEnough___init__ : Df := ⟨mA "NotEnough" "__init__", "__init__", "NotEnough.__init__", s_NotEnough___init__⟩
abbrev s_NotInner___init__ : Stmt := inner (top 9) 0
def d_NotInner___init__ : Df := ⟨mA "NotInner" "__init__", "__init__", "NotInner.__init__", s_NotInner___init__⟩
abbrev s_NotPassed___init__ : Stmt := inner (top 15) 0
def d_NotPassed___init__ : Df := ⟨mA "NotPassed" "__init__", "__init__", "NotPassed.__init__", s_NotPassed___init__⟩
abbrev s_NotPossible___init__ : Stmt := inner (top 19) 0
def d_NotPossible___init__ : Df := ⟨mA "NotPossible" "__init__", "__init__", "NotPossible.__init__", s_NotPossible___init__⟩
abbrev s_NotSeen___init__ : Stmt := inner (top 20) 0
def d_NotSeen___init__ : Df := ⟨mA "NotSeen" "__init__", "__init__", "NotSeen.__init__", s_NotSeen___init__⟩
abbrev s_OtherCounts___init__ : Stmt := inner (top 21) 0
def d_OtherCounts___init__ : Df := ⟨mA "OtherCounts" "__init__", "__init__", "OtherCounts.__init__", s_OtherCounts___init__⟩
abbrev s_TooLarge___init__ : Stmt := inner (top 4) 0
def d_TooLarge___init__ : Df := ⟨mA "TooLarge" "__init__", "__init__", "TooLarge.__init__", s_TooLarge___init__⟩
abbrev s_Uneven___init__ : Stmt := inner (top 12) 0
def d_Uneven___init__ : Df := ⟨mA "Uneven" "__init__", "__init__", "Uneven.__init__", s_Uneven___init__⟩
abbrev s__law_kinds : Stmt := top 32
def d__law_kinds : Df := ⟨gA "_law_kinds", "_law_kinds", "_law_kinds", s__law_kinds⟩
abbrev s__law_feed : Stmt := top 29
def d__law_feed : Df := ⟨gA "_law_feed", "_law_feed", "_law_feed", s__law_feed⟩
abbrev s__law_numbers_right : Stmt := top 33
def d__law_numbers_right : Df := ⟨gA "_law_numbers_right", "_law_numbers_right", "_law_numbers_right", s__law_numbers_right⟩
abbrev s__law_take : Stmt := top 30
def d__law_take : Df := ⟨gA "_law_take", "_law_take", "_law_take", s__law_take⟩
abbrev s__law_others_right : Stmt := top 34
def d__law_others_right : Df := ⟨gA "_law_others_right", "_law_others_right", "_law_others_right", s__law_others_right⟩
abbrev s__law_pick : Stmt := top 31
def d__law_pick : Df := ⟨gA "_law_pick", "_law_pick", "_law_pick", s__law_pick⟩
abbrev s__law_runs_right : Stmt := top 35
def d__law_runs_right : Df := ⟨gA "_law_runs_right", "_law_runs_right", "_law_runs_right", s__law_runs_right⟩
abbrev s_law : Stmt := top 36
def d_law : Df := ⟨gA "law", "law", "law", s_law⟩
def fn : List Df := [d_BadCount___init__, d_BadEntry___init__, d_BadJump___init__, d_BadProgram___init__, d_BadText___init__, d_NoBlock___init__, d_NoItem___init__, d_NoJump___init__, d_NoMark___init__, d_NoRun___init__, d_NotEnough___init__, d_NotInner___init__, d_NotPassed___init__, d_NotPossible___init__, d_NotSeen___init__, d_OtherCounts___init__, d_TooLarge___init__, d_Uneven___init__, d__law_kinds, d__law_feed, d__law_numbers_right, d__law_take, d__law_others_right, d__law_pick, d__law_runs_right, d_law]
def bk : List (Frag → Bool) := [kExc "BadBlocks",
  kGlo "BadBlocks",
  kOex "BadCount",
  kNoat "BadCount" "at",
  kInit "BadCount",
  kGlo "BadCount",
  kExc "BadCover",
  kGlo "BadCover",
  kOex "BadEntry",
  kNoat "BadEntry" "at",
  kInit "BadEntry",
  kGlo "BadEntry",
  kExc "BadIns",
  kGlo "BadIns",
  kOex "BadJump",
  kNoat "BadJump" "at",
  kInit "BadJump",
  kGlo "BadJump",
  kExc "BadNumber",
  kGlo "BadNumber",
  kOex "BadProgram",
  kNoat "BadProgram" "at",
  kInit "BadProgram",
  kGlo "BadProgram",
  kOex "BadText",
  kNoat "BadText" "line",
  kInit "BadText",
  kGlo "BadText",
  kOex "NoBlock",
  kNoat "NoBlock" "block",
  kInit "NoBlock",
  kGlo "NoBlock",
  kExc "NoCeiling",
  kGlo "NoCeiling",
  kExc "NoFloor",
  kGlo "NoFloor",
  kOex "NoItem",
  kNoat "NoItem" "item",
  kInit "NoItem",
  kGlo "NoItem",
  kOex "NoJump",
  kNoat "NoJump" "jump",
  kInit "NoJump",
  kGlo "NoJump",
  kOex "NoMark",
  kNoat "NoMark" "number",
  kInit "NoMark",
  kGlo "NoMark",
  kOex "NoRun",
  kNoat "NoRun" "run",
  kInit "NoRun",
  kGlo "NoRun",
  kOex "NotEnough",
  kNoat "NotEnough" "run",
  kInit "NotEnough",
  kGlo "NotEnough",
  kOex "NotInner",
  kNoat "NotInner" "block",
  kInit "NotInner",
  kGlo "NotInner",
  kOex "NotPassed",
  kNoat "NotPassed" "block",
  kInit "NotPassed",
  kGlo "NotPassed",
  kOex "NotPossible",
  kNoat "NotPossible" "least",
  kNoat "NotPossible" "greatest",
  kInit "NotPossible",
  kGlo "NotPossible",
  kOex "NotSeen",
  kNoat "NotSeen" "jump",
  kInit "NotSeen",
  kGlo "NotSeen",
  kExc "NotTwins",
  kGlo "NotTwins",
  kOex "OtherCounts",
  kNoat "OtherCounts" "jump",
  kInit "OtherCounts",
  kGlo "OtherCounts",
  kExc "OtherRoutine",
  kGlo "OtherRoutine",
  kOex "TooLarge",
  kNoat "TooLarge" "bound",
  kInit "TooLarge",
  kGlo "TooLarge",
  kOex "Uneven",
  kNoat "Uneven" "block",
  kInit "Uneven",
  kGlo "Uneven",
  kFree "enumerate",
  kErI ["BadBlocks", "BadJump", "TooLarge", "NoBlock", "NoJump", "NoRun", "NoItem", "NotInner", "OtherRoutine", "BadCount", "Uneven", "BadNumber", "BadEntry", "NotPassed", "NotEnough", "NoCeiling", "NoFloor", "NotPossible", "NotSeen", "OtherCounts", "BadCover", "BadIns", "NotTwins", "BadProgram", "NoMark", "BadText"],
  kErT (fun K => .ref (gA "BadBlocks" K)) ["BadBlocks", "BadJump", "TooLarge", "NoBlock", "NoJump", "NoRun", "NoItem", "NotInner", "OtherRoutine", "BadCount", "Uneven", "BadNumber", "BadEntry", "NotPassed", "NotEnough", "NoCeiling", "NoFloor", "NotPossible", "NotSeen", "OtherCounts", "BadCover", "BadIns", "NotTwins", "BadProgram", "NoMark", "BadText"] (fun y => y == "BadBlocks"),
  kFree "isinstance",
  kErT (fun K => .ref (gA "BadCount" K)) ["BadBlocks", "BadJump", "TooLarge", "NoBlock", "NoJump", "NoRun", "NoItem", "NotInner", "OtherRoutine", "BadCount", "Uneven", "BadNumber", "BadEntry", "NotPassed", "NotEnough", "NoCeiling", "NoFloor", "NotPossible", "NotSeen", "OtherCounts", "BadCover", "BadIns", "NotTwins", "BadProgram", "NoMark", "BadText"] (fun y => y == "BadCount"),
  kErT (fun K => .ref (gA "BadCover" K)) ["BadBlocks", "BadJump", "TooLarge", "NoBlock", "NoJump", "NoRun", "NoItem", "NotInner", "OtherRoutine", "BadCount", "Uneven", "BadNumber", "BadEntry", "NotPassed", "NotEnough", "NoCeiling", "NoFloor", "NotPossible", "NotSeen", "OtherCounts", "BadCover", "BadIns", "NotTwins", "BadProgram", "NoMark", "BadText"] (fun y => y == "BadCover"),
  kErT (fun K => .ref (gA "BadEntry" K)) ["BadBlocks", "BadJump", "TooLarge", "NoBlock", "NoJump", "NoRun", "NoItem", "NotInner", "OtherRoutine", "BadCount", "Uneven", "BadNumber", "BadEntry", "NotPassed", "NotEnough", "NoCeiling", "NoFloor", "NotPossible", "NotSeen", "OtherCounts", "BadCover", "BadIns", "NotTwins", "BadProgram", "NoMark", "BadText"] (fun y => y == "BadEntry"),
  kErT (fun K => .ref (gA "BadIns" K)) ["BadBlocks", "BadJump", "TooLarge", "NoBlock", "NoJump", "NoRun", "NoItem", "NotInner", "OtherRoutine", "BadCount", "Uneven", "BadNumber", "BadEntry", "NotPassed", "NotEnough", "NoCeiling", "NoFloor", "NotPossible", "NotSeen", "OtherCounts", "BadCover", "BadIns", "NotTwins", "BadProgram", "NoMark", "BadText"] (fun y => y == "BadIns"),
  kErT (fun K => .ref (gA "BadJump" K)) ["BadBlocks", "BadJump", "TooLarge", "NoBlock", "NoJump", "NoRun", "NoItem", "NotInner", "OtherRoutine", "BadCount", "Uneven", "BadNumber", "BadEntry", "NotPassed", "NotEnough", "NoCeiling", "NoFloor", "NotPossible", "NotSeen", "OtherCounts", "BadCover", "BadIns", "NotTwins", "BadProgram", "NoMark", "BadText"] (fun y => y == "BadJump"),
  kErT (fun K => .ref (gA "BadNumber" K)) ["BadBlocks", "BadJump", "TooLarge", "NoBlock", "NoJump", "NoRun", "NoItem", "NotInner", "OtherRoutine", "BadCount", "Uneven", "BadNumber", "BadEntry", "NotPassed", "NotEnough", "NoCeiling", "NoFloor", "NotPossible", "NotSeen", "OtherCounts", "BadCover", "BadIns", "NotTwins", "BadProgram", "NoMark", "BadText"] (fun y => y == "BadNumber"),
  kErT (fun K => .ref (gA "BadProgram" K)) ["BadBlocks", "BadJump", "TooLarge", "NoBlock", "NoJump", "NoRun", "NoItem", "NotInner", "OtherRoutine", "BadCount", "Uneven", "BadNumber", "BadEntry", "NotPassed", "NotEnough", "NoCeiling", "NoFloor", "NotPossible", "NotSeen", "OtherCounts", "BadCover", "BadIns", "NotTwins", "BadProgram", "NoMark", "BadText"] (fun y => y == "BadProgram"),
  kErT (fun K => .ref (gA "BadText" K)) ["BadBlocks", "BadJump", "TooLarge", "NoBlock", "NoJump", "NoRun", "NoItem", "NotInner", "OtherRoutine", "BadCount", "Uneven", "BadNumber", "BadEntry", "NotPassed", "NotEnough", "NoCeiling", "NoFloor", "NotPossible", "NotSeen", "OtherCounts", "BadCover", "BadIns", "NotTwins", "BadProgram", "NoMark", "BadText"] (fun y => y == "BadText"),
  kErT (fun K => .ref (gA "NoBlock" K)) ["BadBlocks", "BadJump", "TooLarge", "NoBlock", "NoJump", "NoRun", "NoItem", "NotInner", "OtherRoutine", "BadCount", "Uneven", "BadNumber", "BadEntry", "NotPassed", "NotEnough", "NoCeiling", "NoFloor", "NotPossible", "NotSeen", "OtherCounts", "BadCover", "BadIns", "NotTwins", "BadProgram", "NoMark", "BadText"] (fun y => y == "NoBlock"),
  kErT (fun K => .ref (gA "NoCeiling" K)) ["BadBlocks", "BadJump", "TooLarge", "NoBlock", "NoJump", "NoRun", "NoItem", "NotInner", "OtherRoutine", "BadCount", "Uneven", "BadNumber", "BadEntry", "NotPassed", "NotEnough", "NoCeiling", "NoFloor", "NotPossible", "NotSeen", "OtherCounts", "BadCover", "BadIns", "NotTwins", "BadProgram", "NoMark", "BadText"] (fun y => y == "NoCeiling"),
  kErT (fun K => .ref (gA "NoFloor" K)) ["BadBlocks", "BadJump", "TooLarge", "NoBlock", "NoJump", "NoRun", "NoItem", "NotInner", "OtherRoutine", "BadCount", "Uneven", "BadNumber", "BadEntry", "NotPassed", "NotEnough", "NoCeiling", "NoFloor", "NotPossible", "NotSeen", "OtherCounts", "BadCover", "BadIns", "NotTwins", "BadProgram", "NoMark", "BadText"] (fun y => y == "NoFloor"),
  kErT (fun K => .ref (gA "NoItem" K)) ["BadBlocks", "BadJump", "TooLarge", "NoBlock", "NoJump", "NoRun", "NoItem", "NotInner", "OtherRoutine", "BadCount", "Uneven", "BadNumber", "BadEntry", "NotPassed", "NotEnough", "NoCeiling", "NoFloor", "NotPossible", "NotSeen", "OtherCounts", "BadCover", "BadIns", "NotTwins", "BadProgram", "NoMark", "BadText"] (fun y => y == "NoItem"),
  kErT (fun K => .ref (gA "NoJump" K)) ["BadBlocks", "BadJump", "TooLarge", "NoBlock", "NoJump", "NoRun", "NoItem", "NotInner", "OtherRoutine", "BadCount", "Uneven", "BadNumber", "BadEntry", "NotPassed", "NotEnough", "NoCeiling", "NoFloor", "NotPossible", "NotSeen", "OtherCounts", "BadCover", "BadIns", "NotTwins", "BadProgram", "NoMark", "BadText"] (fun y => y == "NoJump"),
  kErT (fun K => .ref (gA "NoMark" K)) ["BadBlocks", "BadJump", "TooLarge", "NoBlock", "NoJump", "NoRun", "NoItem", "NotInner", "OtherRoutine", "BadCount", "Uneven", "BadNumber", "BadEntry", "NotPassed", "NotEnough", "NoCeiling", "NoFloor", "NotPossible", "NotSeen", "OtherCounts", "BadCover", "BadIns", "NotTwins", "BadProgram", "NoMark", "BadText"] (fun y => y == "NoMark"),
  kErT (fun K => .ref (gA "NoRun" K)) ["BadBlocks", "BadJump", "TooLarge", "NoBlock", "NoJump", "NoRun", "NoItem", "NotInner", "OtherRoutine", "BadCount", "Uneven", "BadNumber", "BadEntry", "NotPassed", "NotEnough", "NoCeiling", "NoFloor", "NotPossible", "NotSeen", "OtherCounts", "BadCover", "BadIns", "NotTwins", "BadProgram", "NoMark", "BadText"] (fun y => y == "NoRun"),
  kErT (fun K => .ref (gA "NotEnough" K)) ["BadBlocks", "BadJump", "TooLarge", "NoBlock", "NoJump", "NoRun", "NoItem", "NotInner", "OtherRoutine", "BadCount", "Uneven", "BadNumber", "BadEntry", "NotPassed", "NotEnough", "NoCeiling", "NoFloor", "NotPossible", "NotSeen", "OtherCounts", "BadCover", "BadIns", "NotTwins", "BadProgram", "NoMark", "BadText"] (fun y => y == "NotEnough"),
  kErT (fun K => .ref (gA "NotInner" K)) ["BadBlocks", "BadJump", "TooLarge", "NoBlock", "NoJump", "NoRun", "NoItem", "NotInner", "OtherRoutine", "BadCount", "Uneven", "BadNumber", "BadEntry", "NotPassed", "NotEnough", "NoCeiling", "NoFloor", "NotPossible", "NotSeen", "OtherCounts", "BadCover", "BadIns", "NotTwins", "BadProgram", "NoMark", "BadText"] (fun y => y == "NotInner"),
  kErT (fun K => .ref (gA "NotPassed" K)) ["BadBlocks", "BadJump", "TooLarge", "NoBlock", "NoJump", "NoRun", "NoItem", "NotInner", "OtherRoutine", "BadCount", "Uneven", "BadNumber", "BadEntry", "NotPassed", "NotEnough", "NoCeiling", "NoFloor", "NotPossible", "NotSeen", "OtherCounts", "BadCover", "BadIns", "NotTwins", "BadProgram", "NoMark", "BadText"] (fun y => y == "NotPassed"),
  kErT (fun K => .ref (gA "NotPossible" K)) ["BadBlocks", "BadJump", "TooLarge", "NoBlock", "NoJump", "NoRun", "NoItem", "NotInner", "OtherRoutine", "BadCount", "Uneven", "BadNumber", "BadEntry", "NotPassed", "NotEnough", "NoCeiling", "NoFloor", "NotPossible", "NotSeen", "OtherCounts", "BadCover", "BadIns", "NotTwins", "BadProgram", "NoMark", "BadText"] (fun y => y == "NotPossible"),
  kErT (fun K => .ref (gA "NotSeen" K)) ["BadBlocks", "BadJump", "TooLarge", "NoBlock", "NoJump", "NoRun", "NoItem", "NotInner", "OtherRoutine", "BadCount", "Uneven", "BadNumber", "BadEntry", "NotPassed", "NotEnough", "NoCeiling", "NoFloor", "NotPossible", "NotSeen", "OtherCounts", "BadCover", "BadIns", "NotTwins", "BadProgram", "NoMark", "BadText"] (fun y => y == "NotSeen"),
  kErT (fun K => .ref (gA "NotTwins" K)) ["BadBlocks", "BadJump", "TooLarge", "NoBlock", "NoJump", "NoRun", "NoItem", "NotInner", "OtherRoutine", "BadCount", "Uneven", "BadNumber", "BadEntry", "NotPassed", "NotEnough", "NoCeiling", "NoFloor", "NotPossible", "NotSeen", "OtherCounts", "BadCover", "BadIns", "NotTwins", "BadProgram", "NoMark", "BadText"] (fun y => y == "NotTwins"),
  kErT (fun K => .ref (gA "OtherCounts" K)) ["BadBlocks", "BadJump", "TooLarge", "NoBlock", "NoJump", "NoRun", "NoItem", "NotInner", "OtherRoutine", "BadCount", "Uneven", "BadNumber", "BadEntry", "NotPassed", "NotEnough", "NoCeiling", "NoFloor", "NotPossible", "NotSeen", "OtherCounts", "BadCover", "BadIns", "NotTwins", "BadProgram", "NoMark", "BadText"] (fun y => y == "OtherCounts"),
  kErT (fun K => .ref (gA "OtherRoutine" K)) ["BadBlocks", "BadJump", "TooLarge", "NoBlock", "NoJump", "NoRun", "NoItem", "NotInner", "OtherRoutine", "BadCount", "Uneven", "BadNumber", "BadEntry", "NotPassed", "NotEnough", "NoCeiling", "NoFloor", "NotPossible", "NotSeen", "OtherCounts", "BadCover", "BadIns", "NotTwins", "BadProgram", "NoMark", "BadText"] (fun y => y == "OtherRoutine"),
  kErT (fun K => .ref (gA "TooLarge" K)) ["BadBlocks", "BadJump", "TooLarge", "NoBlock", "NoJump", "NoRun", "NoItem", "NotInner", "OtherRoutine", "BadCount", "Uneven", "BadNumber", "BadEntry", "NotPassed", "NotEnough", "NoCeiling", "NoFloor", "NotPossible", "NotSeen", "OtherCounts", "BadCover", "BadIns", "NotTwins", "BadProgram", "NoMark", "BadText"] (fun y => y == "TooLarge"),
  kErT (fun K => .ref (gA "Uneven" K)) ["BadBlocks", "BadJump", "TooLarge", "NoBlock", "NoJump", "NoRun", "NoItem", "NotInner", "OtherRoutine", "BadCount", "Uneven", "BadNumber", "BadEntry", "NotPassed", "NotEnough", "NoCeiling", "NoFloor", "NotPossible", "NotSeen", "OtherCounts", "BadCover", "BadIns", "NotTwins", "BadProgram", "NoMark", "BadText"] (fun y => y == "Uneven"),
  kKeep (gA "_law_kinds"),
  kGlo "_law_kinds",
  kFree "range",
  kGlo "RunError",
  kErT (fun K => .ref (gA "RunError" K)) ["BadBlocks", "BadJump", "TooLarge", "NoBlock", "NoJump", "NoRun", "NoItem", "NotInner", "OtherRoutine", "BadCount", "Uneven", "BadNumber", "BadEntry", "NotPassed", "NotEnough", "NoCeiling", "NoFloor", "NotPossible", "NotSeen", "OtherCounts", "BadCover", "BadIns", "NotTwins", "BadProgram", "NoMark", "BadText"] (fun _ => true),
  kFree "ValueError",
  kErT (fun _ => .type "ValueError") ["BadBlocks", "BadJump", "TooLarge", "NoBlock", "NoJump", "NoRun", "NoItem", "NotInner", "OtherRoutine", "BadCount", "Uneven", "BadNumber", "BadEntry", "NotPassed", "NotEnough", "NoCeiling", "NoFloor", "NotPossible", "NotSeen", "OtherCounts", "BadCover", "BadIns", "NotTwins", "BadProgram", "NoMark", "BadText"] (fun _ => true),
  kFree "len",
  kFree "min",
  kFree "max",
  kFree "abs",
  kFree "int",
  kKeep (gA "_law_feed"),
  kGlo "_law_feed",
  kKeep (gA "_law_take"),
  kGlo "_law_take",
  kKeep (gA "_law_numbers_right"),
  kGlo "_law_numbers_right",
  kFree "repr",
  kKeep (gA "_law_pick"),
  kGlo "_law_pick",
  kKeep (gA "_law_others_right"),
  kGlo "_law_others_right",
  kKeep (gA "_law_runs_right"),
  kGlo "_law_runs_right",
  kKit (fun _ => .type "ValueError") (fun K => .ref (gA "RunError" K)) false,
  kGlo "law"]
abbrev Rw : PySem.W.OpenRow := PySem.W.OpenLaw.row PySem.Challenge.rw_runledger_k73_errors_and_fields
def as0 : List Addr := [3, 6, 4, 24, 37, 56, 75, 94, 113, 132, 151, 170, 182, 201, 220, 232, 251, 270, 289, 301, 313, 332, 351, 370, 382, 394, 406, 425, 444, 463, 472, 479, 486, 493, 500, 507, 514, 519, 0, 23, 36, 55, 74, 93, 112, 131, 150, 169, 181, 200, 219, 231, 250, 269, 288, 300, 312, 331, 350, 369, 381, 393, 405, 424, 443, 462, 471, 478, 485, 492, 499, 506, 513, 518, 22, 25, 35, 53, 54, 72, 73, 91, 92, 110, 111, 129, 130, 148, 149, 167, 168, 180, 198, 199, 217, 218, 230, 248, 249, 267, 268, 286, 287, 299, 311, 329, 330, 348, 349, 367, 368, 380, 392, 404, 422, 423, 441, 442, 460, 461, 466, 467, 468, 469, 470, 473, 474, 475, 476, 477, 480, 481, 482, 483, 484, 487, 488, 489, 490, 491, 494, 495, 496, 497, 498, 501, 502, 503, 504, 505, 508, 509, 510, 511, 512, 515, 516, 517, 52, 71, 90, 109, 128, 147, 166, 197, 216, 247, 266, 285, 328, 347, 366, 421, 440, 459, 47, 48, 49, 50, 51, 66, 67, 68, 69, 70, 85, 86, 87, 88, 89, 104, 105, 106, 107, 108, 123, 124, 125, 126, 127, 142, 143, 144, 145, 146, 161, 162, 163, 164, 165, 192, 193, 194, 195, 196, 211, 212, 213, 214, 215, 242, 243, 244, 245, 246, 261, 262, 263, 264, 265, 280, 281, 282, 283, 284, 323, 324, 325, 326, 327, 342, 343, 344, 345, 346, 361, 362, 363, 364, 365, 416, 417, 418, 419, 420, 435, 436, 437, 438, 439, 454, 455, 456, 457, 458]
def hk : PySem.W.Hook := hookA as0 bk fn
def ob (s : PySem.W.SharedT) : AlV := obsV bk fn (He.frG (HandSHeadRun.getT s) as0)
theorem ob_eq (s : PySem.W.SharedT) : ob s = hk.obs s.abs := obsA_eq (HandSHeadRun.getT_eq s)
def loose : List Str := [("_law_feed" : Str), ("_law_take" : Str), ("_law_pick" : Str), ("_law_kinds" : Str), ("_law_numbers_right" : Str), ("_law_others_right" : Str), ("_law_runs_right" : Str), ("RunError" : Str), ("BadBlocks" : Str), ("BadJump" : Str), ("TooLarge" : Str), ("NoBlock" : Str), ("NoJump" : Str), ("NoRun" : Str), ("NoItem" : Str), ("NotInner" : Str), ("OtherRoutine" : Str), ("BadCount" : Str), ("Uneven" : Str), ("BadNumber" : Str), ("BadEntry" : Str), ("NotPassed" : Str), ("NotEnough" : Str), ("NoCeiling" : Str), ("NoFloor" : Str), ("NotPossible" : Str), ("NotSeen" : Str), ("OtherCounts" : Str), ("BadCover" : Str), ("BadIns" : Str), ("NotTwins" : Str), ("BadProgram" : Str), ("NoMark" : Str), ("BadText" : Str)]
theorem run (w : World) : HandSHeadRun.RunEq Rw (PySem.W.view Rw.prog [36]) hk ob 12000 loose w := by
  intro os
  kernel_rfl
end VM
namespace VM
open PySem PySem.Spec L2 PyProof.Rows
def lrM (m : M) : M := fun ls => (m ls).bind fun k ls => match k with
  | .dat (.int j) => if 0 ≤ j ∧ j ≤ 1000000 then .ok (.own (.lst (rangeD 0 j.toNat))) ls else .stk
  | _ => .stk
section
variable {X : Cx} {B : Base} {W : WX} {a e o : Expr} {es : List Expr} {m om : M} {am : AM} {pos p p2 q2 : Pos}
def reprP (p : PyData) : Option Slot := if p.showable = true ∧ p.hasDict = false ∧ p.shown.length ≤ 1000000 ∧ p.depth ≤ 50 then some (.dat (.str p.shown)) else none
def reprD : List D → Option Slot
  | [d] => (toPy d).bind reprP
  | _ => none
def rRepr (K : PySem.W.Frag) : List V → Hp → VK → Prop := fun xs H Q => ∃ x d, xs = [x] ∧ Dp K H x d ∧ d.showable = true ∧ d.hasDict = false ∧ d.shown.length ≤ sizeLine ∧ d.depth ≤ 50 ∧ Q (.str d.shown) H
theorem c_repr (hg : X.A.guards = some []) (hu : X.A.units + 65 < cLine) : CallR X (.builtin "repr") (rRepr X.K) := by
  intro pins s σ H xs us Q I r h
  obtain ⟨x, d, rfl, hd, h1, h2, h3, h4, q⟩ := h
  obtain ⟨u, rfl, ru⟩ := vals1 r
  obtain ⟨as, rd⟩ := Dp.reads I d x u hd ru
  cases rd with
  | none => exact P.repr_of_none ⟨.str (PyData.shown .none), H, I.tok _, ⟨_, rfl⟩, q⟩
  | bool b => exact P.repr_of_bool ⟨.str (PyData.shown (.bool b)), H, I.tok _, ⟨_, rfl⟩, q⟩
  | int i t => exact P.repr_of_int (by simpa [PyData.showable] using h1) ⟨.str (PyData.shown (.int i)), H, I.tok _, ⟨_, rfl⟩, q⟩
  | str y t => exact P.repr_of_str ⟨.str (PyData.shown (.str y)), H, I.tok _, ⟨_, rfl⟩, q⟩ (by simpa [PyData.shown] using h3)
  | list a1 a2 a3 a4 => exact repr_of_reads' (.list a1 a2 a3 a4) h1 (fun z => by rw [h2] at z; cases z) hg (by omega) (fun _ _ e => e) (fun h' u tk hk => ⟨.str (PyData.shown (.list _)), H, I.kept (t' := tk) hk, ⟨_, rfl⟩, q⟩) h3
  | tuple a1 a2 a3 a4 => exact repr_of_reads' (.tuple a1 a2 a3 a4) h1 (fun z => by rw [h2] at z; cases z) hg (by omega) (fun _ _ e => e) (fun h' u tk hk => ⟨.str (PyData.shown (.tuple _)), H, I.kept (t' := tk) hk, ⟨_, rfl⟩, q⟩) h3
  | dict a1 a2 a3 a4 a5 => simp [PyData.hasDict] at h2
theorem m_repr {G : Cfg} : OpMA G (rRepr G.K) reprD := by
  intro F H σ ls vs ks ws ds k Q R hv hg q
  unfold reprD at hg
  split at hg
  · rename_i d
    cases hv with | cons h1 h2 =>
    cases h2
    cases e : toPy d with
    | none => rw [e] at hg; cases hg
    | some p =>
      rw [e] at hg
      obtain ⟨hc, rfl⟩ := ite_some (show (if p.showable = true ∧ p.hasDict = false ∧ p.shown.length ≤ 1000000 ∧ p.depth ≤ 50 then some (Slot.dat (.str p.shown)) else none) = some k from hg)
      exact ⟨_, p, rfl, vw_dp R.ex h1 e, hc.1, hc.2.1, line_of hc.2.2.1, hc.2.2.2, q _ _ _ (R.pushDat (.str _))⟩
  · cases hg
end
section
variable {X : Cx} {B : Base} {W : WX} {a b : Expr} {am : AM} {pos : Pos}
end
theorem law_callG {P : Program} {w : World} {K : PySem.W.Frag} {mg mb : Str → Option Value} {CX : CXT} {k : Nat} {fa a : Addr} {fd : FuncData} {x : Str} {sp : Sp} {s₁ : Shared} {vs : List Value} {ns : List Int}
    (KX : K.In s₁.heap) (hns : s₁.heap.Ns mainGlobals mg) (hb : s₁.heap.Ns builtinsNs mb) (hbb : ∀ x : Str, x ≠ "__name__" → mb x = bootBuiltins x) (hlim : s₁.heap.NoLimit) (hg : s₁.gens = #[])
    (ha : s₁.heap.get? a = some { cls := .type "list", data := .seq vs.toArray }) (hi : IntsAre vs ns) (hl : ns.length ≤ sizeLine) (hr : RoomG k callerA)
    (F : ∀ base : Heap, K.In base → base.Ns mainGlobals mg → FnG P w K mg base CX k fa fd [x] sp) (hbind : ∀ (s : Shared) (u : Value), BindsTo s fd ⟨[u], []⟩ [(x, u)])
    (hsp : ∀ H : Hp, Only H → SqL K H a (ns.map V.int) → sp [.ref a] H (fun v _ => v = .bl true) fun _ _ _ => False)
    (hCX : ∀ H e s', CX [] H s₁ (fun _ _ _ => False) e s' → False) :
    codeAny (model P w) callerA (.call (.ref fa) ⟨[.ref a], []⟩) (fun r s' => r = .ok (.ret (.bool true)) ∧ OldK s₁.heap s'.heap ∧ s'.os = s₁.os ∧ AllBare s'.gens) s₁ := by
  have rv := vals_ints hi
  have lenV := hi.length
  -- from an abstract heap in which nothing but the script may be tracked
  have main : ∀ H : Hp, Only H → SqL K H a (ns.map V.int) → HOk P w H s₁.heap → (∀ b, H b ≠ none → b = a) → (H a ≠ none → K.lookup a = none) →
      codeAny (model P w) callerA (.call (.ref fa) ⟨[.ref a], []⟩) (fun r s' => r = .ok (.ret (.bool true)) ∧ OldK s₁.heap s'.heap ∧ s'.os = s₁.os ∧ AllBare s'.gens) s₁ := by
    intro H hO hS hok hA hK
    have bsOf : ∀ {b : Addr} {o : Obj}, s₁.heap.get? b = some o → H b = none → (hidT s₁.heap H).get? b = some o := fun e n => hidT_get e n
    have nA : ∀ {b : Addr} {o : Obj} {es : Array DictEntry} {ep : Nat}, s₁.heap.get? b = some o → o.data = .dict es ep → H b = none := fun {b o es ep} e d => by
      cases q : H b with
      | none => rfl
      | some u =>
        have e' : b = a := hA b (by rw [q]; simp)
        subst e'
        rw [ha] at e; cases e
        have d' : Data.seq vs.toArray _ = Data.dict es ep := d
        cases d'
    have nK : ∀ {b : Addr} {m : Str → Option Value}, s₁.heap.Ns b m → (hidT s₁.heap H).Ns b m := fun {b m} ⟨o, es, ep, e, d, r⟩ => ⟨o, es, ep, bsOf e (nA e d), d, r⟩
    have kb : K.In (hidT s₁.heap H) := fun b o e => bsOf (KX b o e) (by
      cases q : H b with
      | none => rfl
      | some u =>
        have e' : b = a := hA b (by rw [q]; simp)
        subst e'
        rw [hK (by rw [q]; simp)] at e; cases e)
    have mdl : Mod K mg (hidT s₁.heap H) := ⟨kb, nK hns, ⟨mb, nK hb, hbb⟩, let ⟨mc, h1, h2⟩ := hlim; ⟨mc, nK h1, h2⟩⟩
    have e0 : Env0 P w K mg (hidT s₁.heap H) callerA [] s₁ H := ⟨rfl, mdl, fun b o e => of_hidT e, Nat.le_of_eq (hidT_size _ _), trivial, fun b hb => absurd (show b ∈ ([] : List Addr) from hb) (by simp), hok, .of_eq hg⟩
    refine codeAny_mono ((F _ kb (nK hns)).run callerA [] s₁ H ⟨[.ref a], []⟩ [.ref a] [.ref a] _ _ hr e0 (hbind s₁ (.ref a)) (.cons rfl .nil) (hsp H hO hS)) fun r s' h => ?_
    cases r with
    | error e => exact (hCX H e s' h).elim
    | ok fl =>
      cases fl with
      | next => exact False.elim h
      | brk => exact False.elim h
      | cont => exact False.elim h
      | ret u =>
        obtain ⟨v, H', os, bare, un, hok', r', q⟩ := h
        have q' : v = .bl true := q
        subst q'
        obtain rfl : u = Value.bool true := r'
        refine ⟨rfl, OldK.of_keep fun b o e => ?_, os, bare⟩
        cases q : H b with
        | none => exact un.keep b o e q (by intro z; exact absurd (show b ∈ ([] : List Addr) from z) (by simp)) (by simp)
        | some u =>
          rcases hO b with z | ⟨ob, xs, z⟩
          · rw [q] at z; cases z
          · have z2 := un.frzs b ob _ z
            obtain ⟨e1, _⟩ := hok b _ z
            obtain ⟨e2, _⟩ := hok' b _ z2
            rw [e] at e1; cases e1
            exact e2
  cases hk : K.lookup a with
  | some o =>
    -- the script is one of the module's own objects
    have e := KX a o hk
    rw [ha] at e
    cases e
    refine main (fun _ => none) (fun _ => .inl rfl) (.inr ⟨_, vs.toArray, _, hk, rfl, rfl, rfl, by rw [List.size_toArray, lenV]; exact hl, by simpa using rv⟩) (fun b u z => by have z' : (none : Option HO) = some u := z; cases z') (fun b z => absurd rfl z) fun z => absurd rfl z
  | none =>
    refine main (fun b => if b = a then some (.frz { cls := .type "list", data := .seq vs.toArray } (.lst (ns.map V.int))) else none) (fun b => ?_) (.inl (.inr ⟨{ cls := .type "list", data := .seq vs.toArray }, if_pos rfl⟩)) (fun b u z => ?_) (fun b z => ?_) fun _ => hk
    · by_cases hb : b = a
      · exact .inr ⟨_, _, if_pos hb⟩
      · exact .inl (if_neg hb)
    · by_cases hb : b = a
      · have z' := (if_pos hb).symm.trans z
        cases z'
        subst hb
        exact ⟨ha, by rw [List.length_map]; exact hl, vs, _, rv, ha⟩
      · have z' := (if_neg hb).symm.trans z
        cases z'
    · by_cases hb : b = a
      · exact hb
      · exact absurd (if_neg hb) z
theorem walk_ofG {l : PySem.W.OpenLaw} {n k : Nat} {q : Program} {loose : List Str} {XP : (Str → Option Value) → Heap → Prop} {YP : World → Heap → Prop} {d : DefRec} {CX : World → CXT} {x : Str}
    (hn : l.most = some n) (hn2 : n ≤ sizeLine) (hdf : d.params.defaults = []) (hr : RoomG k callerA)
    (F : ∀ (w : World) (mg : Str → Option Value) (fa : Addr) (h : Heap), YP w h → h.Ns mainGlobals mg → mg d.name = some (.ref fa) →
      ∃ (K : PySem.W.Frag) (fd : FuncData) (sp : Sp), K.In h ∧ (∀ (s : Shared) (u : Value), BindsTo s fd ⟨[u], []⟩ [(x, u)]) ∧
        (∀ (H : Hp) (a : Addr) (ns : List Int), ns.length ≤ n → Only H → SqL K H a (ns.map V.int) → sp [.ref a] H (fun v _ => v = .bl true) fun _ _ _ => False) ∧
        ∀ base : Heap, K.In base → base.Ns mainGlobals mg → FnG l.prog w K mg base (CX w) k fa fd [x] sp)
    (hCX : ∀ (w : World) (H : Hp) (s : Shared) (e : Value) (s' : Shared), CX w [] H s (fun _ _ _ => False) e s' → False) :
    PySem.W.WalkO q loose XP YP l.row.toRowW d [] (fun f vs => PySem.call f vs) := by
  refine Att.attach_call hn hdf fun w s₀ s₁ mg mb fa o pm cd doc a vs ns G Y ho hd hcd hmg hobj hints hlen hg => ?_
  obtain ⟨K, fd, sp, KX, hb, hsp, hF⟩ := F w mg fa _ Y G.T.g hmg
  exact law_callG KX G.T.g G.T.b G.T.builtins G.T.nolimit hg hobj hints (Nat.le_trans hlen hn2) hr hF hb (fun H hO hS => hsp H a ns hlen hO hS) fun H e s' => hCX w H s₁ e s'
theorem law_sp {K : Frag} {mg : Str → Option Value} {m : List Slot → RF} {H : Hp} {a : Addr} {ns : List Int} (hS : SqL K H a (ns.map V.int)) (hm : ∃ ps, m [.dat (.scr ns)] = .ok (.dat (.bl true)) ps) :
    spM K mg 1 m [.ref a] H (fun v _ => v = .bl true) fun _ _ _ => False := by
  obtain ⟨ps, hm⟩ := hm
  refine ⟨rfl, H, fun _ => False, [.dat (.scr ns)], fun i hi => by simp at hi, ⟨Ex.rfl, Ex.rfl, rfl, rfl, ⟨fun n e he => ?_, fun m' n e e' p h1 h2 o1 o2 => ?_⟩, fun v i hi => by simp at hi, fun i d hd => by rcases hd with z | z | z | ⟨_, z⟩ <;> simp at z, fun b o e => .inr e, fun b h => h, fun b h => .inr (.inl h)⟩, ?_⟩
  · obtain ⟨w, q, h1, h2, rfl⟩ := ent_nil he
    cases n with
    | zero => cases h1; cases h2; exact ⟨_, rfl, .scr hS⟩
    | succ n => simp at h1
  · obtain ⟨w, q, h3, h4, rfl⟩ := ent_nil h1
    cases m' with
    | zero => cases h3; cases h4; cases o1
    | succ n => simp at h3
  · rw [hm]
    intro v F' H' R
    exact Vw.bl R.ex (R.view0 (d := .bl true) rfl)
theorem noCX {P : Program} {w : World} {outer : List Env} {H : Hp} {s : Shared} {e : Value} {s' : Shared} (h : L2.CX P w outer H s (fun _ _ _ => False) e s') : False := by
  obtain ⟨_, _, _, _, _, _, _, _, _, _, _, _, z⟩ := h
  exact z
structure RoomQ (k : Nat) (A : Around) : Prop where
  dp : A.depth + 3 * k + 5 < recursionLimit
  un : A.units + 16 * k + 200 < cLine
  g : A.guards = some []
theorem RoomG.q {k : Nat} {A : Around} (r : RoomG k A) : RoomQ k A := ⟨r.r.dp, r.r.un, r.g⟩
theorem RoomQ.mono {j k : Nat} {A : Around} (r : RoomQ k A) (h : j ≤ k) : RoomQ j A := ⟨by have := r.dp; omega, by have := r.un; omega, r.g⟩
theorem RoomQ.deeper {k : Nat} {A : Around} (r : RoomQ (k + 1) A) (env : Env) : RoomQ k (A.deeper env) :=
  ⟨by have := r.dp; show A.depth + 1 + 3 * k + 5 < _; omega, by have := r.un; show A.units + 3 + 16 * k + 200 < _; omega, r.g⟩
theorem RoomQ.u {k : Nat} {A : Around} (r : RoomQ k A) : A.units + 65 < cLine := by have := r.un; omega
structure FnQ (P : Program) (w : World) (K : PySem.W.Frag) (mg : Str → Option Value) (base : Heap) (CX : CXT) (k : Nat) (f : Addr) (fd : FuncData) (pn : List Str) (sp : Sp) : Prop where
  len : ∀ vs H Q E, sp vs H Q E → vs.length = pn.length
  run : ∀ (A : Around) (outer : List Env) (s : Shared) (H : Hp) (args : Args) (us : List Value) (vs : List V) (Q : VK) (E : XK), RoomQ k A → Env0 P w K mg base A outer s H → BindsTo s fd args (pn.zip us) → Vals vs us → sp vs H Q E →
    codeAny (model P w) A (.call (.ref f) args) (CR CX outer P w H s Q E) s
def cxQ (CX : CXT) (P : Program) (w : World) (K : PySem.W.Frag) (mg : Str → Option Value) (base : Heap) (N : List Str) (qual : Str) (scope : Scope) (f : Addr) (cd : Value) (A : Around) (outer : List Env) (s : Shared) (H : Hp) (E : XK) : Cx :=
  { cxOf CX P w K mg base N qual scope f cd A outer s H E with calm := false }
theorem Inv.quiet {X : Cx} {A2 : Around} {xe2 : Value → Shared → Prop} {pins : List (Addr × Obj)} {σ : L2.St} {H : Hp} {s : Shared} (hf : A2.frames = X.A.frames) (I : Inv X pins σ H s) : Inv { X with A := A2, calm := false, xe := xe2 } pins σ H s :=
  ⟨⟨I.ok.mod, I.ok.kind, I.ok.glob, I.ok.blt, I.ok.above, I.ok.inj, I.ok.has, I.ok.cab, fun z => Bool.noConfusion (show false = true from z), hf.trans I.ok.frames, I.ok.stk, I.ok.exf, I.ok.bs, I.ok.bsz, I.ok.noex, I.ok.exfs, I.ok.funs, I.ok.frf⟩,
    I.os, I.bare, I.base, I.loc, I.cell, I.free, I.freeC, I.pin, I.hok, I.len⟩
section
variable {X : Cx} {k : Nat} {f : Addr} {fd : FuncData} {pn : List Str} {sp : Sp} {pins : List (Addr × Obj)} {σ : L2.St} {H : Hp} {s : Shared} {Q : VK} {us : List Value} {vs : List V}
end
def callQ (n : Nat) (f : List Slot → RF) (am : AM) : M := fun ls => (am ls).bind fun as ls => if as.length = n then (match callK f as ls with
  | .ok k ls => .ok k ls
  | _ => .stk) else .stk
end VM
set_option maxHeartbeats 1000000
namespace VM
open PySem L2
def trs : List Slot → Option (List T)
  | [] => some []
  | .dat d :: r => (trs r).map (.fz d :: ·)
  | .own d :: r => (trs r).map (.fl d :: ·)
  | .tre t :: r => (trs r).map (t :: ·)
  | _ :: _ => none
section
variable {G : Cfg} {F F' H H' : Hp} {σ : L2.St} {ls : LS} {vs : List V} {ks : List Slot} {v : V} {k : Slot} {d d' : D} {p : Addr} {o o' : HO} {i : Nat} {E : List Ent} {e e' : Ent}
end
section
variable {X : Cx} {B : Base} {W : WX} {e a b : Expr} {es : List Expr} {m ma mb : M} {am : AM} {i : Nat} {pos : Pos}
def lstT (am : AM) : M := fun ls => (am ls).bind fun as ls => match trs as with
  | some ts => if ts.length ≤ 1000 then .ok (.tre (.lst ts)) ls else .stk
  | none => .stk
def lookT (ls : LS) (k : Slot) : Option D := match look ls k with
  | some d => some d
  | none => (match k with
    | .tre t => some t.er
    | .ali i => (match ls[i]? with
      | some (.tre t) => some t.er
      | some (.ptr t) => some t.er
      | _ => none)
    | _ => none)
def OpP2 (K : PySem.W.Frag) (mg : Str → Option Value) (r : R2) (g : D → D → Option Bool) : Prop := ∀ (G : Cfg) F F' H v w x y b Q, G.K = K → G.mg = mg → Ex F H → Ex F' H → Vw G F H v x → Vw G F' H w y → g x y = some b → Q (.bl b) H → r v w H Q
def binP (g : D → D → Option Bool) (a b : M) : M := fun ls => (a ls).bind fun k1 ls => (b ls).bind fun k2 ls => match lookT ls k1, lookT ls k2 with
  | some x, some y => (match g x y with
    | some c => .ok (.dat (.bl c)) ls
    | none => .stk)
  | _, _ => .stk
def neP (x y : D) : Option Bool := (eqP x y).map (!·)
end
structure Ext (F H F' H' : Hp) : Prop where
  f : Ex F F'
  h : Ex H H'
  x : Ex F' H'
  n : ∀ b, F' b = F b ∨ H b = none
theorem Ext.refl {F H : Hp} (x : Ex F H) : Ext F H F H := ⟨Ex.rfl, Ex.rfl, x, fun _ => .inl rfl⟩
theorem Ext.trans {F H F1 H1 F2 H2 : Hp} (a : Ext F H F1 H1) (b : Ext F1 H1 F2 H2) : Ext F H F2 H2 := ⟨a.f.trans b.f, a.h.trans b.h, b.x, fun c => by
  rcases b.n c with z | z
  · rcases a.n c with y | y
    · exact .inl (z.trans y)
    · exact .inr y
  · refine .inr ?_
    cases q : H c with
    | none => rfl
    | some o => rw [a.h c o q] at z; cases z⟩
section
variable {G : Cfg} {F F' H H' : Hp} {σ : L2.St} {ls : LS} {vs : List V} {ks : List Slot} {v : V} {k : Slot} {d d' : D} {p c : Addr} {o o' : HO} {i : Nat}
theorem Rp.ext (R : Rp G F H σ ls vs ks) (x : Ext F H F' H') : Rp G F' H' σ ls vs ks := by
  refine ⟨x.x, R.ex0.trans x.f, R.len, R.klen, R.good.grow x.f x.x.tu fun n e q he hq => ?_, R.al, R.pin, fun b o e => (R.b1 b o e).imp id fun z => x.h _ _ z, fun b z => ?_, fun b z => ?_⟩
  · obtain ⟨f1, o, h1⟩ := R.good.owned he hq
    refine ⟨?_, by rw [h1]; exact x.h _ _ h1⟩
    rcases x.n q with z | z
    · rw [z]; exact f1
    · rw [h1] at z; cases z
  · cases q : H b with
    | none => exact absurd q (R.b2 b z)
    | some o => rw [x.h _ _ q]; exact Option.some_ne_none _
  · rcases x.n b with y | y
    · rw [y] at z
      exact (R.b3 b z).imp (fun ⟨xs, q⟩ => ⟨xs, by rw [y]; exact q⟩) id
    · exact .inr (.inr (.inl (R.fresh y).1))
end
abbrev XM := LS → Option D
abbrev XA := LS → Option (List D)
def tX (G : Cfg) (m : XM) : TE := fun σ H Q => ∃ F ls vs ks, Rp G F H σ ls vs ks ∧ match m ls with
  | some d => ∀ v F' H', Ext F H F' H' → DD G.K G.mg F' d v → Q v H'
  | none => False
def tXA (G : Cfg) (m : XA) : TA := fun σ H Q => ∃ F ls vs ks, Rp G F H σ ls vs ks ∧ match m ls with
  | some ds => ∀ ws F' H', Ext F H F' H' → DDs G.K G.mg F' ds ws → Q ws H'
  | none => False
def xC (d : D) : XM := fun _ => some d
def xV (i : Nat) : XM := fun ls => match ls[i]? with
  | some (.dat d) => some d
  | some (.pdt d) => some d
  | _ => none
def xNil : XA := fun _ => some []
def xCons (m : XM) (r : XA) : XA := fun ls => match m ls with
  | some d => (match r ls with
    | some ds => some (d :: ds)
    | none => none)
  | none => none
def xTup (am : XA) : XM := fun ls => match am ls with
  | some ds => if ds.length ≤ 1000 then some (.tup ds) else none
  | none => none
section
variable {X : Cx} {B : Base} {W : WX} {e a b : Expr} {es : List Expr} {m : XM} {am : XA} {i : Nat} {pos : Pos}
end
section
variable {G : Cfg} {F F' H H' : Hp} {σ : L2.St} {ls : LS} {vs : List V} {ks : List Slot} {v : V} {k : Slot} {d d' : D} {p c : Addr} {o o' : HO} {i : Nat}
theorem TOks.at : ∀ {ts : List T} {xs : List V} {j : Nat}, TOks G F H ts xs → ts[j]? = some (.fl d) → ∃ c, xs[j]? = some (.ref c) ∧ OwnAt G F H c d ∧ c ∈ adsL H ts xs
  | _, _, j, .nil, h => by simp at h
  | _, _, 0, .cons a r, h => by
    rw [List.getElem?_cons_zero] at h; cases h
    cases a with
    | fl o => exact ⟨_, rfl, o, by rw [adsL_cons, ads_fl]; simp⟩
  | _, _, j + 1, .cons a r, h => by
    rw [List.getElem?_cons_succ] at h
    obtain ⟨c, h1, h2, h3⟩ := TOks.at r h
    exact ⟨c, by rw [List.getElem?_cons_succ]; exact h1, h2, by rw [adsL_cons]; exact List.mem_append_right _ h3⟩
theorem TOks.setAt (hb : ObD G F o' d') : ∀ {ts : List T} {xs : List V} {j : Nat}, TOks G F H ts xs → (adsL H ts xs).Nodup → ts[j]? = some (.fl d) → xs[j]? = some (.ref c) →
    TOks G F (L2.upd H c o') (ts.set j (.fl d')) xs ∧ adsL (L2.upd H c o') (ts.set j (.fl d')) xs = adsL H ts xs
  | _, _, j, .nil, _, h, _ => by simp at h
  | _, _, 0, .cons a r, hn, h, hx => by
    rw [List.getElem?_cons_zero] at h hx; cases h; cases hx
    rw [adsL_cons] at hn
    obtain ⟨n1, n2, n3⟩ := List.nodup_append.mp hn
    cases a with
    | fl q =>
      rw [ads_fl] at n3
      obtain ⟨r1, r2⟩ := r.move (B' := G.B) (F' := F) (H' := L2.upd H c o') Ex.rfl q.one.tu fun q hq => ⟨(r.one hq).1, upd_ne (fun z => n3 c (List.mem_singleton.mpr rfl) q hq z.symm), (r.one hq).2.1⟩
      refine ⟨.cons (.fl ⟨q.1, q.2.1, o', upd_same, hb⟩) r1, ?_⟩
      show adsL _ (.fl d' :: _) _ = _
      rw [adsL_cons, adsL_cons, ads_fl, ads_fl, r2]
  | _, _, j + 1, .cons (t := t) (v := v) a r, hn, h, hx => by
    rw [List.getElem?_cons_succ] at h hx
    rw [adsL_cons] at hn
    obtain ⟨n1, n2, n3⟩ := List.nodup_append.mp hn
    obtain ⟨c', h1, h2, h3⟩ := TOks.at r h
    rw [hx] at h1; cases h1
    obtain ⟨a1, a2⟩ := a.move (B' := G.B) (F' := F) (H' := L2.upd H c o') Ex.rfl h2.one.tu fun q hq => ⟨(a.one hq).1, upd_ne (fun z => n3 q hq c h3 z), (a.one hq).2.1⟩
    obtain ⟨r1, r2⟩ := TOks.setAt hb r n2 h hx
    refine ⟨.cons a1 r1, ?_⟩
    show adsL _ (t :: _) _ = _
    rw [adsL_cons, adsL_cons, a2, r2]
theorem Rp.mutT {ts : List T} {xs : List V} {j : Nat} (R : Rp G F H σ ls vs ks) (h1 : ls[i]? = some (.tre (.lst ts))) (h2 : σ[i]? = some (some (.ref p))) (h3 : H p = some (.lst xs)) (h4 : ts[j]? = some (.fl d)) (h5 : xs[j]? = some (.ref c)) (hb : ObD G F o' d') :
    Rp G F (L2.upd H c o') σ (ls.set i (.tre (.lst (ts.set j (.fl d'))))) vs ks := by
  have he : (ent vs ks σ ls)[vs.length + i]? = some (some (.ref p), .tre (.lst ts)) := by rw [ent_loc R.klen]; exact zip_at h2 h1
  obtain ⟨y, ey, tk, nd⟩ := R.good.all _ _ he
  cases ey
  cases tk with
  | lst node q =>
    have e3 := node.2.2
    rw [h3] at e3; cases e3
    rw [ads_lst h3] at nd
    obtain ⟨nd1, nd2⟩ := List.nodup_cons.mp nd
    obtain ⟨c', g1, g2, g3⟩ := q.at h4
    rw [h5] at g1; cases g1
    have pc : p ≠ c := fun z => nd1 (by rw [z]; exact g3)
    obtain ⟨q1, q2⟩ := q.setAt hb nd2 h4 h5
    obtain ⟨m1, m2, m3⟩ := R.mutB (o' := o') g2.1 g2.2.1
    have hp' : (L2.upd H c o') p = some (.lst xs) := by rw [upd_ne pc]; exact h3
    have own : adE H (some (.ref p), Slot.tre (.lst ts)) = p :: adsL H ts xs := ads_lst h3
    have own' : adE (L2.upd H c o') (some (.ref p), Slot.tre (.lst (ts.set j (.fl d')))) = p :: adsL H ts xs := by rw [← q2]; exact ads_lst hp'
    have hl := (List.getElem?_eq_some_iff.mp h1).1
    refine ⟨m3, R.ex0, by rw [List.length_set]; exact R.len, R.klen, ?_, fun w i' hj => ?_, fun i' d2 hd => ?_, m1, m2, R.b3⟩
    · rw [ent_setl R.klen h2]
      refine R.good.take he Ex.rfl m3.tu (fun q' hq' => ⟨.inl rfl, .inl (upd_ne fun z => hq' (by rw [own, z]; exact List.mem_cons_of_mem _ g3))⟩) ⟨_, rfl, .lst ⟨node.1, node.2.1, hp'⟩ q1, ?_⟩ fun q' hq' => .inl (by rw [own'] at hq'; rw [own]; exact hq')
      show (adE (L2.upd H c o') (some (.ref p), Slot.tre (.lst (ts.set j (.fl d'))))).Nodup
      rw [own']; exact nd
    · obtain ⟨s, a2, a3, a4⟩ := R.al w i' hj
      by_cases hi : i' = i
      · subst hi
        exact ⟨_, a2, by rw [List.getElem?_set_self hl], rfl⟩
      · exact ⟨s, a2, by rw [List.getElem?_set_ne (Ne.symm hi)]; exact a3, a4⟩
    · by_cases hi : i' = i
      · subst hi
        rw [List.getElem?_set_self hl] at hd
        rcases hd with z | z | z | ⟨_, z⟩ <;> cases z
      · rw [List.getElem?_set_ne (Ne.symm hi)] at hd
        exact R.pin i' d2 hd
end
def mutT (ty : D → Bool) (g : D → List D → Option (D × D)) (i : Nat) (j : Nat) (am : XA) : M := fun ls => match ls[i]?, am ls with
  | some (.tre (.lst ts)), some ds => (match ts[j]? with
    | some (.fl d) => if ty d = true then (match g d ds with
      | some (d', r) => .ok (.dat r) (ls.set i (.tre (.lst (ts.set j (.fl d')))))
      | none => .stk) else .stk
    | _ => .stk)
  | _, _ => .stk
section
variable {X : Cx} {B : Base} {W : WX} {e a b : Expr} {es : List Expr} {am : XA} {i : Nat} {pos apos cpos ipos npos : Pos} {T id : String} {name : Str}
end
def extG : D → List D → Option (D × D)
  | .lst xs, [.lst ys] => if xs.length + ys.length ≤ 1000000 then some (.lst (xs ++ ys), .non) else none
  | _, _ => none
def popG : D → List D → Option (D × D)
  | .lst xs, [.int i] => if 0 ≤ i ∧ i < 1000000 then (match xs[i.toNat]? with
    | some d => some (.lst (xs.eraseIdx i.toNat), d)
    | none => none) else none
  | _, _ => none
def getD2 (x y z : D) : Option D := match x with
  | .dK es => (match keyK y with
    | some k => some ((getG es k).getD z)
    | none => none)
  | .dT es => (match keyT y with
    | some k => some ((getG es k).getD z)
    | none => none)
  | _ => none
def isDic (ls : LS) (k : Slot) : Bool := match look ls k with
  | some (.dK _) => true
  | some (.dT _) => true
  | _ => false
def getM (om km dm : M) : M := fun ls => (om ls).bind fun ko ls => if isDic ls ko = true then ((km ls).bind fun kk ls => (frzM dm ls).bind fun kd ls => match look ls ko, look ls kk, kd with
  | some x, some y, .dat z => (match getD2 x y z with
    | some d => .ok (.dat d) ls
    | none => .stk)
  | _, _, _ => .stk) else .stk
section
variable {X : Cx} {B : Base} {W : WX} {o e f : Expr} {om km dm : M} {pos apos cpos : Pos}
end
def mulTD : D → D → Option Slot
  | .tup ds, .int k => if ds ≠ [] ∧ 2 ≤ k ∧ k ≤ 1000 ∧ ds.length ≤ 1000 then some (.dat (.tup (List.replicate k.toNat ds).flatten)) else none
  | _, _ => none
def Slot.stored : Slot → Bool
  | .dat _ => true
  | .own _ => true
  | .tre _ => true
  | _ => false
def asg3 (i j l : Nat) (am : AM) : SM := fun ls => match am ls with
  | .ok as ls => (match as with
    | [a, b, c] => if a.stored = true ∧ b.stored = true ∧ c.stored = true then .nx (((ls.set i a).set j b).set l c) else .stk
    | _ => .stk)
  | .err x ls => .err x ls
  | .stk => .stk
section
variable {X : Cx} {B : Base} {W : WX} {a b c : Expr} {am : AM} {pos : Pos}
end
def rInDT (K : PySem.W.Frag) : R2 := fun x y H Q => ∃ d ds, Dp K H x d ∧ Dp K H y (.tuple ds) ∧ SeqAt.shaped d = true ∧ SeqAt.shaped (.tuple ds) = true ∧ Q (.bl (ds.any fun z => PyData.eqv z d)) H
def rNinDT (K : PySem.W.Frag) : R2 := fun x y H Q => ∃ d ds, Dp K H x d ∧ Dp K H y (.tuple ds) ∧ SeqAt.shaped d = true ∧ SeqAt.shaped (.tuple ds) = true ∧ Q (.bl (!ds.any fun z => PyData.eqv z d)) H
def inTP (x y : D) : Option Bool := match y with
  | .tup ds => (match toPy x, toPys ds with
    | some a, some bs => if SeqAt.shaped a = true ∧ SeqAt.shaped (.tuple bs) = true then some (bs.any fun z => PyData.eqv z a) else none
    | _, _ => none)
  | _ => none
def inTD (x y : D) : Option Slot := (inTP x y).map fun b => .dat (.bl b)
def ninTD (x y : D) : Option Slot := (inTP x y).map fun b => .dat (.bl (!b))
def stkF : List Slot → RF := fun _ => .stk
end VM
namespace RZ
open PySem
open PySem.Sem (wp)
section
variable {prog : Program} {w : World} {A : Around} {E : Value → Shared → Prop} {s : Shared}
abbrev IsZipM (h : Heap) (z TI TO T : Addr) (b : Bool) : Prop :=
  h.get? z = some { cls := .type "zip", dict := none, data := .fields #[rawInt T, .bool b, .bool false, .ref TI, .ref TO], slots := #[] }
end
end RZ
namespace RZ
open PySem
open PySem.Sem (wp)
section
variable {prog : Program} {w : World} {A : Around} {E : Value → Shared → Prop} {s : Shared} {R : Result → Shared → Prop}
structure ZAt (h : Heap) (z TI TO i1 i2 l1 l2 S : Addr) (xs ys : Array Value) (k : Nat) : Prop where
  zip : ∃ T fb o, IsZipM h z TI TO T fb ∧ h.get? T = some o ∧ S < T
  ti : IsPair h TI (.ref i1) (.ref i2)
  h1 : h.IsTupleIter i1 l1 k
  h2 : h.IsTupleIter i2 l2 k
  l1 : h.IsTuple l1 xs
  l2 : h.IsTuple l2 ys
def PairsAt (h : Heap) (S : Addr) (xs ys acc : Array Value) (k : Nat) : Prop := acc.size = k ∧ (∀ j, j < k → ∃ t x y, acc[j]? = some (.ref t) ∧ S < t ∧ xs[j]? = some x ∧ ys[j]? = some y ∧ IsPair h t x y) ∧ ∀ (i j : Nat) (t t' : Addr), i < j → acc[i]? = some (Value.ref t) → acc[j]? = some (Value.ref t') → t < t'
structure Low (z TI TO i1 i2 l1 l2 S : Addr) : Prop where
  z : z < S
  ti : TI < S
  to : TO < S
  i1 : i1 < S
  i2 : i2 < S
  l1 : l1 < S
  l2 : l2 < S
theorem ab {a S t : Addr} (h : a < S) (h2 : S < t) : t ≠ a := Nat.ne_of_gt (Nat.lt_trans h h2)
end
end RZ
namespace RZ
open PySem
open PySem.Sem (wp)
section
variable {prog : Program} {w : World} {A : Around} {E : Value → Shared → Prop} {s : Shared} {R : Result → Shared → Prop}
structure Z0 (h : Heap) (z TI TO i1 i2 l1 l2 : Addr) (xs ys : Array Value) : Prop where
  zip : IsZip h z TI TO .none
  ti : IsPair h TI (.ref i1) (.ref i2)
  to : ∃ a b, IsPair h TO a b
  h1 : h.IsTupleIter i1 l1 0
  h2 : h.IsTupleIter i2 l2 0
  l1 : h.IsTuple l1 xs
  l2 : h.IsTuple l2 ys
theorem Z0.at {h h' : Heap} {z TI TO i1 i2 l1 l2 S : Addr} {xs ys : Array Value} (Z : Z0 h z TI TO i1 i2 l1 l2 xs ys) (L : Low z TI TO i1 i2 l1 l2 S) (e : ∀ b o, b ≠ S → h.get? b = some o → h'.get? b = some o) : Z0 h' z TI TO i1 i2 l1 l2 xs ys :=
  ⟨e _ _ (Nat.ne_of_lt L.z) Z.zip, e _ _ (Nat.ne_of_lt L.ti) Z.ti, let ⟨a, b, q⟩ := Z.to; ⟨a, b, e _ _ (Nat.ne_of_lt L.to) q⟩, Z.h1.at fun o q => e _ o (Nat.ne_of_lt L.i1) q, Z.h2.at fun o q => e _ o (Nat.ne_of_lt L.i2) q,
    Z.l1.at fun o q => e _ o (Nat.ne_of_lt L.l1) q, Z.l2.at fun o q => e _ o (Nat.ne_of_lt L.l2) q⟩
end
end RZ
set_option maxHeartbeats 2000000
namespace RZ
open PySem PySem.Spec PyProof.Rows L2
def putZ : Hp → List Addr → List (V × V) → Hp
  | H, a :: as, p :: r => putZ (upd H a (.tup [p.1, p.2])) as r
  | H, _, _ => H
def adr : Value → Addr
  | .ref t => t
  | _ => 0
theorem adrs {h' : Heap} {S : Addr} {xs ys acc : Array Value} {k : Nat} (hp : PairsAt h' S xs ys acc k) : acc.toList = (acc.toList.map adr).map Value.ref := by
  rw [List.map_map]
  symm
  have e : ∀ v ∈ acc.toList, (Value.ref ∘ adr) v = v := fun v hv => by
    obtain ⟨j, hj, e⟩ := List.getElem_of_mem hv
    have hj' : j < k := by rw [Array.length_toList, hp.1] at hj; exact hj
    obtain ⟨t, x, y, a1, _⟩ := hp.2.1 j hj'
    have : acc.toList[j]? = some v := by rw [List.getElem?_eq_getElem hj, e]
    rw [Array.getElem?_toList, a1] at this
    cases this
    rfl
  exact (List.map_congr_left e).trans (List.map_id _)
section
variable {X : Cx}
end
end RZ
namespace RZ
open PySem PySem.Spec PyProof.Rows L2
def tListZip (K : PySem.W.Frag) (ta : TA) : TE := fun σ H Q => ta σ H fun ws H1 => ∃ a b xs ys, ws = [.ref a, .ref b] ∧ SqT K H1 a xs ∧ SqT K H1 b ys ∧
  ∀ (q : Addr) (ts : List Addr), H1 q = none → (∀ t ∈ ts, H1 t = none) → ts.Nodup → q ∉ ts → ts.length = (xs.zip ys).length → Q (.ref q) (putZ (upd H1 q (.lst (ts.map V.ref))) ts (xs.zip ys))
section
variable {X : Cx}
end
end RZ
set_option maxHeartbeats 1000000
namespace VM
open PySem PySem.Spec L2
def zipD (xs ys : List D) : List D := (xs.zip ys).map fun p => .tup [p.1, p.2]
theorem Rp.putZ {G : Cfg} {σ : L2.St} {ls : LS} {vs : List V} {ks : List Slot} : ∀ {ts : List Addr} {r : List (V × V)} {ps : List (D × D)} {F H : Hp}, Rp G F H σ ls vs ks → (∀ t ∈ ts, H t = none) → ts.Nodup → ts.length = r.length → ps.length = r.length →
    (∀ (n : Nat) p, ps[n]? = some p → ∃ q, r[n]? = some q ∧ DD G.K G.mg F p.1 q.1 ∧ DD G.K G.mg F p.2 q.2) →
    ∃ F', Ex F F' ∧ Rp G F' (RZ.putZ H ts r) σ ls vs ks ∧ DDs G.K G.mg F' (ps.map fun p => D.tup [p.1, p.2]) (ts.map V.ref)
  | [], [], [], F, H, R, _, _, _, _, _ => ⟨F, Ex.rfl, R, .nil⟩
  | a :: ts, q :: r, p :: ps, F, H, R, hn, nd, l1, l2, hp => by
    obtain ⟨q', e, d1, d2⟩ := hp 0 p rfl
    cases e
    have ha : H a = none := hn a List.mem_cons_self
    have hF : F a = none := (R.fresh ha).2
    have nd' := List.nodup_cons.mp nd
    have R1 := R.frzNew (o := .tup [q.1, q.2]) ha
    have x1 : Ex F (upd F a (.tup [q.1, q.2])) := Ex.upd hF
    obtain ⟨F2, x2, R2, dd⟩ := Rp.putZ (ts := ts) (r := r) (ps := ps) R1 (fun t ht => by
      have hne : t ≠ a := fun z => nd'.1 (by rw [← z]; exact ht)
      rw [upd_ne hne]; exact hn t (List.mem_cons_of_mem _ ht)) nd'.2 (Nat.succ.inj l1) (Nat.succ.inj l2) (fun n p h => by
      obtain ⟨q, e, f1, f2⟩ := hp (n + 1) p (by simpa using h)
      exact ⟨q, by simpa using e, f1.mono x1, f2.mono x1⟩)
    refine ⟨F2, x1.trans x2, R2, .cons (.tup (x2 a _ upd_same) (.cons (d1.mono (x1.trans x2)) (.cons (d2.mono (x1.trans x2)) .nil))) dd⟩
  | [], _ :: _, _, _, _, _, _, _, l, _, _ => by cases l
  | _ :: _, [], _, _, _, _, _, _, l, _, _ => by cases l
  | [], [], _ :: _, _, _, _, _, _, _, l, _ => by cases l
  | _ :: _, _ :: _, [], _, _, _, _, _, _, l, _ => by cases l
def zipM (am : AM) : M := fun ls => (am ls).bind fun as ls => match as with
  | [.dat (.tup xs), .dat (.tup ys)] => .ok (.own (.lst (zipD xs ys))) ls
  | _ => .stk
@[simp] theorem zipM_ap {am : AM} {ls : LS} : zipM am ls = (am ls).bind fun as ls => match as with
  | [.dat (.tup xs), .dat (.tup ys)] => .ok (.own (.lst (zipD xs ys))) ls
  | _ => .stk := rfl
section
variable {X : Cx} {B : Base} {W : WX} {a b : Expr} {am : AM} {pos p p2 q2 : Pos}
end
def prD : List D → Option (List (Key × D))
  | [] => some []
  | .tup [a, b] :: r => (match keyK a, prD r with
    | some k, some ps => some ((k, b) :: ps)
    | _, _ => none)
  | _ => none
def mergeG (es more : List (Key × D)) : List (Key × D) := more.foldl (fun acc kv => putG acc kv.1 kv.2) es
def dictPD : List D → Option Slot
  | [.lst ds] => (prD ds).map fun ps => .own (.dK (mergeG [] ps))
  | _ => none
end VM
namespace VM
open PySem L2
def wipeS (own : List Nat) (r : S) : S := match r with
  | .nx ls => .nx (wipeL ls own)
  | .brk ls => .brk (wipeL ls own)
  | .cnt ls => .cnt (wipeL ls own)
  | r => r
def fgaS (own : List Nat) (s : SM) : SM := fun ls => wipeS own (s ls)
section
variable {X : Cx} {B : Base} {W : WX}
theorem PostS_wipe {G : Cfg} {vs : List V} {ks : List Slot} {own : List Nat} {r : S} {D : Ends} (na : noAli ks) (h : PostS G W vs ks (wipeS own r) D) : PostS G W vs ks r D := by
  cases r with
  | nx ls => exact fun σ' F' H' R => h σ' F' H' (R.forgetL fun i _ => na i)
  | brk ls => exact fun σ' F' H' R => h σ' F' H' (R.forgetL fun i _ => na i)
  | cnt ls => exact fun σ' F' H' R => h σ' F' H' (R.forgetL fun i _ => na i)
  | ret k ls => exact h
  | err x ls => exact h
  | stk => exact h
theorem ss_fga {st : List Stmt} {sa : SM} (own : List Nat) (h : L2.PSs X st (tS (cfg X B) W sa)) : L2.PSs X st (tS (cfg X B) W (fgaS own sa)) := PSs.imp h fun D σ H h => by
  obtain ⟨F, ls, vs, ks, na, R, po⟩ := h
  exact ⟨F, ls, vs, ks, na, R, PostS_wipe na po⟩
end
def isDc : HO → Prop
  | .dK _ => True
  | .dT _ => True
  | _ => False
structure Sw (d : Addr) (u : HO) (od : Obj) (F F' : Hp) : Prop where
  ne : ∀ a, a ≠ d → F' a = F a
  a0 : F d = some u ∨ F d = some (.frz od u)
  a1 : F' d = some u ∨ F' d = some (.frz od u)
theorem Sw.symm {d : Addr} {u : HO} {od : Obj} {F F' : Hp} (s : Sw d u od F F') : Sw d u od F' F := ⟨fun a h => (s.ne a h).symm, s.a1, s.a0⟩
section
variable {K : PySem.W.Frag} {mg : Str → Option Value} {d : Addr} {u : HO} {od : Obj} {F F' : Hp} (s : Sw d u od F F') (hu : isDc u)
include s hu
theorem Sw.get {a : Addr} {o : HO} (h : F a = some o) (h1 : ¬ isDc o) (h2 : ∀ ob w, o = .frz ob w → ¬ isDc w) : F' a = some o := by
  rw [s.ne a fun z => ?_]
  · exact h
  subst z
  rcases s.a0 with q | q <;> (rw [h] at q; cases q)
  · exact h1 hu
  · exact h2 od u rfl hu
theorem Sw.rd {a : Addr} {o : HO} (h : Rd F a o) (ho : ∀ ob w, o ≠ .frz ob w) : Rd F' a o := by
  by_cases e : a = d
  · subst e
    have hw : o = u := by
      rcases h with h | ⟨ob, h⟩ <;> rcases s.a0 with q | q <;> (rw [h] at q; cases q)
      · rfl
      · exact absurd rfl (ho od u)
      · exact absurd hu (by simp [isDc])
      · rfl
    subst hw
    exact s.a1.imp id fun q => ⟨od, q⟩
  · rcases h with h | ⟨ob, h⟩
    · exact .inl (by rw [s.ne a e]; exact h)
    · exact .inr ⟨ob, by rw [s.ne a e]; exact h⟩
theorem Sw.t {a : Addr} {xs : List V} (h : SqT K F a xs) : SqT K F' a xs := by
  rcases h with h | h
  · exact .inl (s.rd hu h (fun _ _ z => nomatch z))
  · exact .inr h
theorem Sw.l {a : Addr} {xs : List V} (h : SqL K F a xs) : SqL K F' a xs := by
  rcases h with h | h
  · exact .inl (s.rd hu h (fun _ _ z => nomatch z))
  · exact .inr h
theorem Sw.o {a : Addr} {o : HO} (h : F a = some o) (h1 : ¬ isDc o := by intro z; exact z) (h2 : ∀ ob w, o ≠ .frz ob w := by intro _ _ z; cases z) : F' a = some o := s.get hu h h1 fun ob w e => absurd e (h2 ob w)
mutual
theorem DD.sw : ∀ {d : D} {v : V}, DD K mg F d v → DD K mg F' d v
  | _, _, .non => .non
  | _, _, .bl b => .bl b
  | _, _, .int b => .int b
  | _, _, .str b => .str b
  | _, _, .scr h => .scr (s.l hu h)
  | _, _, .lst h r => .lst (s.o hu h) (DDs.sw r)
  | _, _, .tup h r => .tup (s.o hu h) (DDs.sw r)
  | _, _, .ktup h r => .ktup (s.t hu h) (DDs.sw r)
  | _, _, .dk h r => .dk (s.rd hu h fun _ _ z => nomatch z) (DDk.sw r)
  | _, _, .dt h r => .dt (s.rd hu h fun _ _ z => nomatch z) (DDt.sw r)
  | _, _, .ins m h r => .ins m (s.o hu h) (DDf.sw r)
  | _, _, .exc m h q r => .exc m (s.o hu h (fun z => z) (fun _ _ z => exo_frz z)) (q.imp id fun ⟨dx, z, y⟩ => ⟨dx, z, s.o hu y (fun z => z) (fun _ _ w => by have w : HO.ext _ = HO.frz _ _ := w; cases w)⟩) (DDf.sw r)
theorem DDs.sw : ∀ {d : List D} {v : List V}, DDs K mg F d v → DDs K mg F' d v
  | _, _, .nil => .nil
  | _, _, .cons h r => .cons (DD.sw h) (DDs.sw r)
theorem DDk.sw : ∀ {d : List (Key × D)} {v : List (Key × V)}, DDk K mg F d v → DDk K mg F' d v
  | _, _, .nil => .nil
  | _, _, .cons h r => .cons (DD.sw h) (DDk.sw r)
theorem DDt.sw : ∀ {d : List (List Key × D)} {v : List (List Key × V)}, DDt K mg F d v → DDt K mg F' d v
  | _, _, .nil => .nil
  | _, _, .cons h r => .cons (DD.sw h) (DDt.sw r)
theorem DDf.sw : ∀ {d : List (Str × D)} {v : List (Str × V)}, DDf K mg F d v → DDf K mg F' d v
  | _, _, .nil => .nil
  | _, _, .cons h r => .cons (DD.sw h) (DDf.sw r)
end
end
section
variable {G : Cfg} {B' : Base} {d : Addr} {u : HO} {od : Obj} {F F' H H' : Hp} {p : Addr} {o : HO}
structure SwH (G : Cfg) (B' : Base) (d : Addr) (u : HO) (od : Obj) (F F' H H' : Hp) : Prop where
  s : Sw d u od F F'
  hu : isDc u
  h : ∀ a, a ≠ d → H' a = H a
  b : ∀ a, a ≠ d → (G.B.H a = none ∨ G.B.W a) → (B'.H a = none ∨ B'.W a)
variable (z : SwH G B' d u od F F' H H')
include z
theorem SwH.ned (h : F p = none) : p ≠ d := fun e => by
  subst e
  rcases z.s.a0 with q | q <;> (rw [h] at q; cases q)
theorem ObD.sw {x : D} (h : ObD G F o x) : ObD ⟨G.K, G.mg, B'⟩ F' o x := by
  cases o <;> cases x <;> first | exact h.elim | exact DDs.sw z.s z.hu h | exact DDk.sw z.s z.hu h | exact DDt.sw z.s z.hu h | exact ⟨h.1, DDf.sw z.s z.hu h.2⟩
theorem Node.sw (n : Node G F H p o) : Node ⟨G.K, G.mg, B'⟩ F' H' p o := by
  have e := z.ned n.1
  exact ⟨by rw [z.s.ne p e]; exact n.1, z.b p e n.2.1, by rw [z.h p e]; exact n.2.2⟩
theorem OwnAt.sw {x : D} (h : OwnAt G F H p x) : OwnAt ⟨G.K, G.mg, B'⟩ F' H' p x := by
  obtain ⟨h1, h2, o, h3, h4⟩ := h
  have e := z.ned h1
  exact ⟨by rw [z.s.ne p e]; exact h1, z.b p e h2, o, by rw [z.h p e]; exact h3, ObD.sw z h4⟩
mutual
theorem TOk.sw : ∀ {t : T} {v : V}, TOk G F H t v → TOk ⟨G.K, G.mg, B'⟩ F' H' t v ∧ ads H' t v = ads H t v
  | _, _, .fz x => ⟨.fz (DD.sw z.s z.hu x), by rw [ads_fz, ads_fz]⟩
  | _, _, .fl o => ⟨.fl (OwnAt.sw z o), by rw [ads_fl, ads_fl]⟩
  | _, _, .lst n q => by
    obtain ⟨a, b⟩ := TOks.sw q
    have n' := Node.sw z n
    exact ⟨.lst n' a, by rw [ads_lst n.2.2, ads_lst n'.2.2, b]⟩
  | _, _, .dk n q => by
    obtain ⟨a, b⟩ := TOkk.sw q
    have n' := Node.sw z n
    exact ⟨.dk n' a, by rw [ads_dk n.2.2, ads_dk n'.2.2, b]⟩
  | _, _, .dt n q => by
    obtain ⟨a, b⟩ := TOkt.sw q
    have n' := Node.sw z n
    exact ⟨.dt n' a, by rw [ads_dt n.2.2, ads_dt n'.2.2, b]⟩
  | _, _, .ins m n q => by
    obtain ⟨a, b⟩ := TOkf.sw q
    have n' := Node.sw z n
    exact ⟨.ins m n' a, by rw [ads_ins n.2.2, ads_ins n'.2.2, b]⟩
  | _, _, .tup (p := p) (xs := xs) f n q => by
    obtain ⟨a, b⟩ := TOks.sw q
    have e : p ≠ d := fun e => by
      subst e
      have hu := z.hu
      rcases z.s.a0 with q | q
      · rw [f] at q; cases q; exact hu
      · rw [f] at q; cases q
    have f' : F' p = some (.tup xs) := by rw [z.s.ne p e]; exact f
    have n' : H' p = some (.tup xs) := by rw [z.h p e]; exact n
    exact ⟨.tup f' n' a, by rw [ads_tup n, ads_tup n', b]⟩
theorem TOks.sw : ∀ {t : List T} {v : List V}, TOks G F H t v → TOks ⟨G.K, G.mg, B'⟩ F' H' t v ∧ adsL H' t v = adsL H t v
  | _, _, .nil => ⟨.nil, by rw [adsL_nil, adsL_nil]⟩
  | _, _, .cons a b => ⟨.cons (TOk.sw a).1 (TOks.sw b).1, by rw [adsL_cons, adsL_cons, (TOk.sw a).2, (TOks.sw b).2]⟩
theorem TOkk.sw : ∀ {t : List (Key × T)} {v : List (Key × V)}, TOkk G F H t v → TOkk ⟨G.K, G.mg, B'⟩ F' H' t v ∧ adsK H' t v = adsK H t v
  | _, _, .nil => ⟨.nil, by rw [adsK_nil, adsK_nil]⟩
  | _, _, .cons a b => ⟨.cons (TOk.sw a).1 (TOkk.sw b).1, by rw [adsK_cons, adsK_cons, (TOk.sw a).2, (TOkk.sw b).2]⟩
theorem TOkt.sw : ∀ {t : List (List Key × T)} {v : List (List Key × V)}, TOkt G F H t v → TOkt ⟨G.K, G.mg, B'⟩ F' H' t v ∧ adsT H' t v = adsT H t v
  | _, _, .nil => ⟨.nil, by rw [adsT_nil, adsT_nil]⟩
  | _, _, .cons a b => ⟨.cons (TOk.sw a).1 (TOkt.sw b).1, by rw [adsT_cons, adsT_cons, (TOk.sw a).2, (TOkt.sw b).2]⟩
theorem TOkf.sw : ∀ {t : List (Str × T)} {v : List (Str × V)}, TOkf G F H t v → TOkf ⟨G.K, G.mg, B'⟩ F' H' t v ∧ adsF H' t v = adsF H t v
  | _, _, .nil => ⟨.nil, by rw [adsF_nil, adsF_nil]⟩
  | _, _, .cons a b => ⟨.cons (TOk.sw a).1 (TOkf.sw b).1, by rw [adsF_cons, adsF_cons, (TOk.sw a).2, (TOkf.sw b).2]⟩
end
theorem EnOk.sw {e : Ent} (h : EnOk G F H e) : EnOk ⟨G.K, G.mg, B'⟩ F' H' e ∧ adE H' e = adE H e := by
  obtain ⟨v, k⟩ := e
  cases k with
  | emp => exact ⟨trivial, rfl⟩
  | ali i => exact ⟨trivial, rfl⟩
  | dat x => obtain ⟨y, e, q⟩ := h; exact ⟨⟨y, e, DD.sw z.s z.hu q⟩, rfl⟩
  | pdt x => obtain ⟨y, e, q⟩ := h; exact ⟨⟨y, e, DD.sw z.s z.hu q⟩, rfl⟩
  | own x => obtain ⟨p, rfl, q⟩ := h; exact ⟨⟨p, rfl, OwnAt.sw z q⟩, rfl⟩
  | par x => obtain ⟨p, rfl, q⟩ := h; exact ⟨⟨p, rfl, OwnAt.sw z q⟩, rfl⟩
  | tre t => obtain ⟨y, rfl, h1, h2⟩ := h; exact ⟨⟨y, rfl, (TOk.sw z h1).1, by rw [(TOk.sw z h1).2]; exact h2⟩, (TOk.sw z h1).2⟩
  | ptr t => obtain ⟨y, rfl, h1, h2⟩ := h; exact ⟨⟨y, rfl, (TOk.sw z h1).1, by rw [(TOk.sw z h1).2]; exact h2⟩, (TOk.sw z h1).2⟩
theorem Good.sw {E : List Ent} (g : Good G F H E) : Good ⟨G.K, G.mg, B'⟩ F' H' E :=
  ⟨fun n e he => (EnOk.sw z (g.all n e he)).1, fun m n e e' p h1 h2 o1 o2 => by
    rw [(EnOk.sw z (g.all m e h1)).2] at o1
    rw [(EnOk.sw z (g.all n e' h2)).2] at o2
    exact g.nd m n e e' p h1 h2 o1 o2⟩
end
def lockB (F : Hp) (B : Base) (d : Addr) (w : HO) : Base := ⟨upd F d w, (match B.H d with | none => B.H | some _ => upd B.H d w), B.W, B.P⟩
section
variable {K : PySem.W.Frag} {mg : Str → Option Value} {B : Base} {F H F2 H2 : Hp} {σ σ2 : L2.St} {ls ls2 : LS} {vs vs2 : List V} {ks ks2 : List Slot} {d : Addr} {u w0 : HO} {od : Obj}
end
end VM
namespace L2
open PySem PySem.Spec PyProof.Rows
def Itit (d : Addr) (o : Obj) (kvs : List (List Key × V)) : It :=
  ⟨fun i H => H d = some (.frz o (.dT kvs)) ∧ i < kvs.length, fun i H x H' => ∃ (T : Addr) (k : List Key) (v : V) (q : Addr), kvs[i]? = some (k, v) ∧ x = .ref T ∧ H T = none ∧ H q = some (.tup (k.map kV)) ∧ H' = upd H T (.tup [.ref q, v]), fun i H => H d = some (.frz o (.dT kvs)) ∧ kvs.length ≤ i⟩
section
variable {P : Program} {w : World} {K : PySem.W.Frag} {d : Addr} {o : Obj} {es : Array DictEntry} {ep : Nat}
def iItemsT (td : TE) : TI := fun σ H R => td σ H fun x H1 => ∃ d o kvs, x = .ref d ∧ H1 d = some (.frz o (.dT kvs)) ∧ R (Itit d o kvs) H1
end
end L2
namespace VM
open PySem L2
inductive Pth where
  | v (i : Nat) | f (p : Pth) (xs : List Str) (fd : Str)
def pM : Pth → LS → Option D
  | .v i, ls => (match ls[i]? with
    | some (.dat d) => some d
    | some (.pdt d) => some d
    | some (.own d) => some d
    | some (.par d) => some d
    | _ => none)
  | .f p xs fd, ls => (match pM p ls with
    | some (.ins y gs) => if y ∈ xs then gs.lookup fd else none
    | _ => none)
def dM : Pth → LS → Option D
  | .v i, ls => (match ls[i]? with
    | some (.dat d) => some d
    | some (.pdt d) => some d
    | _ => none)
  | p, ls => pM p ls
def frzV : Pth → LS → LS
  | .v i, ls => (match ls[i]? with
    | some (.own d) => ls.set i (.dat d)
    | some (.par d) => ls.set i (.pdt d)
    | _ => ls)
  | _, ls => ls
def PV (K : PySem.W.Frag) (mg : Str → Option Value) : Pth → L2.St → Hp → V → Prop
  | .v i, σ, _, x => σ[i]? = some (some x)
  | .f p xs fd, σ, H, x => ∃ a y C dx fs, PV K mg p σ H (.ref a) ∧ y ∈ xs ∧ mg y = some (.ref C) ∧ H a = some (.ins C dx fs) ∧ fs.lookup fd = some x
def tP (K : PySem.W.Frag) (mg : Str → Option Value) (p : Pth) : TE := fun σ H Q => ∃ x, PV K mg p σ H x ∧ Q x H
section
variable {G : Cfg} {F H : Hp} {σ : L2.St} {ls : LS} {vs : List V} {ks : List Slot}
theorem frzV_own {i : Nat} {d : D} (e : ls[i]? = some (.own d)) : frzV (.v i) ls = ls.set i (.dat d) := by simp only [frzV, e]
theorem frzV_par {i : Nat} {d : D} (e : ls[i]? = some (.par d)) : frzV (.v i) ls = ls.set i (.pdt d) := by simp only [frzV, e]
theorem frzV_ok (R : Rp G F H σ ls vs ks) (p : Pth) : ∃ F', Ex F F' ∧ Rp G F' H σ (frzV p ls) vs ks := by
  cases p with
  | f p xs fd => exact ⟨F, Ex.rfl, R⟩
  | v i =>
    cases e : ls[i]? with
    | none => refine ⟨F, Ex.rfl, ?_⟩; simp only [frzV, e]; exact R
    | some k =>
      cases k with
      | own d =>
        obtain ⟨p, F', _, x, _, R'⟩ := R.frzLoc (.inl rfl) e
        rw [frzV_own e]
        exact ⟨F', x, R'⟩
      | par d =>
        obtain ⟨p, F', _, x, _, R'⟩ := R.frzLoc (.inr rfl) e
        rw [frzV_par e]
        exact ⟨F', x, R'⟩
      | _ => refine ⟨F, Ex.rfl, ?_⟩; simp only [frzV, e]; exact R
end
theorem PV.upd {K : PySem.W.Frag} {mg : Str → Option Value} {σ : L2.St} {H : Hp} {d : Addr} {o w : HO} (hd : H d = some o) (ho : ∀ C dx fs, o ≠ .ins C dx fs) : ∀ {p : Pth} {x : V}, PV K mg p σ H x → PV K mg p σ (L2.upd H d w) x
  | .v _, _, h => h
  | .f p xs fd, x, h => by
    obtain ⟨a, y, C, dx, fs, h1, h2, h3, h4, h5⟩ := h
    refine ⟨a, y, C, dx, fs, PV.upd hd ho h1, h2, h3, ?_, h5⟩
    rw [upd_ne fun z => ?_]
    · exact h4
    rw [z, hd] at h4
    cases h4
    exact ho _ _ _ rfl
section
variable {X : Cx} {e : Expr} {pos : Pos}
end
def keyD (k : List Key) : D := .tup (k.map kD)
def keysD : D → Option (List D)
  | .dK es => some (es.map fun e => kD e.1)
  | .dT es => some (es.map fun e => keyD e.1)
  | _ => none
def itemsD2 : D → Option (List D)
  | .dK es => some (es.map fun e => .tup [kD e.1, e.2])
  | .dT es => some (es.map fun e => .tup [keyD e.1, e.2])
  | _ => none
section
variable {K : PySem.W.Frag} {mg : Str → Option Value} {B : Base} {F : Hp} {d : Addr} {od : Obj}
theorem Rp.locked {H2 F2 : Hp} {σ : L2.St} {ls : LS} {vs ks} {w : HO} (R : Rp ⟨K, mg, lockB F B d w⟩ F2 H2 σ ls vs ks) : H2 d = some w ∧ Ex (L2.upd F d w) F2 := ⟨R.ex _ _ (R.ex0 d _ (show L2.upd F d w d = _ from upd_same)), R.ex0⟩
end
def noErr (r : S) : S := match r with
  | .err _ _ => .stk
  | r => r
def noErrR (r : R) : R := match r with
  | .err _ _ => .stk
  | r => r
def DW (X : Cx) (tgt e : Expr) (p : Pth) (g : D → Option (List D)) : Prop := ∃ wi : TI, L2.PI X tgt e wi ∧
  ∀ (B : Base) (F H : Hp) (σ : L2.St) (x : D) (d : Addr) (u : HO) (od : Obj) (items : List D) (R : It → Hp → Prop), PV X.K X.mg p σ H (.ref d) → H d = some (.frz od u) → isDc u → L2.upd F d (.frz od u) d = some (.frz od u) → DD X.K X.mg (L2.upd F d (.frz od u)) x (.ref d) → g x = some items →
    ∃ J, WalkD ⟨X.K, X.mg, lockB F B d (.frz od u)⟩ J items [] [] none ∧ (R J H → wi σ H R)
section
variable {X : Cx} {tgt e : Expr} {p : Pth} {apos cpos : Pos}
end
theorem isDc.mut {u : HO} (h : isDc u) : Mut (some u) := by
  cases u <;> first | exact h.elim | trivial
theorem isDc.ins {u : HO} (h : isDc u) : ∀ C dx fs, u ≠ .ins C dx fs := fun C dx fs z => by subst z; exact h
def dSrc (g : D → Option (List D)) (p : Pth) (ls : LS) : Option (List D) := match dM p (frzV p ls) with
  | some x => g x
  | none => none
def forD (g : D → Option (List D)) (p : Pth) (t : TgM) (body : SM) : SM := fun ls => match dSrc g p ls with
  | some items => noErr (forL none t body items (frzV p ls))
  | none => .stk
def onlyD (g : D → Option (List D)) : Prop := ∀ x items, g x = some items → (∃ es, x = .dK es) ∨ ∃ es, x = .dT es
section
variable {X : Cx} {B : Base} {W : WX} {e : Expr} {p : Pth} {g : D → Option (List D)} {pos : Pos} {t : TgM} {is : List Nat} {tgt : Expr} {sts : List Stmt} {sa : SM}
def lockD (d : Addr) (w w0 : HO) (D : Ends) : Ends := ⟨fun σ' H' => H' d = some w ∧ D.nx σ' (L2.upd H' d w0), fun v H' => H' d = some w ∧ D.rt v (L2.upd H' d w0), fun σ' H' => H' d = some w ∧ D.bk σ' (L2.upd H' d w0), fun σ' H' => H' d = some w ∧ D.ct σ' (L2.upd H' d w0)⟩
end
def exD (g : D → Option (List D)) (p : Pth) (mm : List D → M) : M := fun ls => match dSrc g p ls with
  | some items => noErrR (mm items (frzV p ls))
  | none => .stk
def stD (g : D → Option (List D)) (p : Pth) (mm : List D → SM) : SM := fun ls => match dSrc g p ls with
  | some items => noErr (mm items (frzV p ls))
  | none => .stk
section
variable {X : Cx} {B : Base} {W : WX} {e ex : Expr} {st : Stmt} {p : Pth} {g : D → Option (List D)} {pos : Pos} {t : TgM} {is : List Nat} {tgt : Expr}
end
section
variable {X : Cx} {B : Base} {W : WX} {t : TgM} {mt me mk mv : M} {is : List Nat} {elt tg iter c kx vx : Expr} {scope : Scope} {ow : List (Str × Nat)} {pos : Pos} {p : Pth} {g : D → Option (List D)}
abbrev ims (items : List D) : IM := fun ls => .ok items none ls
end
section
variable {X : Cx} {B : Base} {W : WX} {e a b v : Expr} {es : List Expr} {m ma mb om im vm : M} {am : AM} {i j : Nat} {pos p1 p2 p3 : Pos} {k : Nat}
def revM (m : M) : M := fun ls => (m ls).bind fun k ls => match look ls k with
  | some (.lst ds) => .ok (.own (.lst ds.reverse)) ls
  | _ => .stk
def augN (g : Int → Int → Int) (i : Nat) (m : M) : SM := fun ls => match ls[i]? with
  | some (.dat (.int a)) => (m ls).bindS fun k ls => (match look ls k with
    | some (.int b) => .nx (ls.set i (.dat (.int (g a b))))
    | _ => .stk)
  | _ => .stk
def getI (x i : D) : Option Int := match x with
  | .dK es => (match keyK i with
    | some k => (match getG es k with
      | some (.int a) => some a
      | _ => none)
    | none => none)
  | .dT es => (match keyT i with
    | some k => (match getG es k with
      | some (.int a) => some a
      | _ => none)
    | none => none)
  | _ => none
def augI (g : Int → Int → Int) (om im vm : M) : SM := fun ls => (om ls).bindS fun ko ls => (im ls).bindS fun ki ls => match ko, look ls ki with
  | .ali j, some i => (match look ls (.ali j) with
    | some x => (match getI x i with
      | some a => (vm ls).bindS fun kv ls' => (match look ls' kv, look ls' ki with
        | some (.int b), some i' => (match chg j (fun x => setD x i' (.int (g a b))) ls' with
          | some ls'' => .nx ls''
          | none => .stk)
        | _, _ => .stk)
      | none => .stk)
    | none => .stk)
  | _, _ => .stk
def lr2M (am : AM) : M := fun ls => (am ls).bind fun as ls => match as with
  | [.dat (.int i), .dat (.int j)] => if inR i && inR j then (if (j - i).toNat ≤ 1000000 then .ok (.own (.lst (rangeD i (j - i).toNat))) ls else .stk) else .stk
  | _ => .stk
def strD : List D → Option Slot
  | [.int i] => if i.natAbs < 2 ^ 200 then some (.dat (.str (toString i))) else none
  | _ => none
end
section
variable {G : Cfg}
end
section
variable {X : Cx} {B : Base} {W : WX} {a b e o : Expr} {es : List Expr} {m mk mv : M} {am : AM} {pos p p2 q2 : Pos}
def dpairs : List Slot → Option (List (Key × D))
  | [] => some []
  | .dat k :: .dat v :: r => (match keyK k, dpairs r with
    | some k, some ps => some ((k, v) :: ps)
    | _, _ => none)
  | _ => none
def dispM (am : AM) : M := fun ls => (am ls).bind fun as ls => match dpairs as with
  | some ps => if ps.length ≤ 15 then .ok (.own (.dK (ps.foldl (fun acc kv => putG acc kv.1 kv.2) []))) ls else .stk
  | none => .stk
structure DPs (X : Cx) (B : Base) (W : WX) (pos : Pos) (keys : List (Option Expr)) (values : List Expr) (am : AM) : Prop where
  h : ∃ trs, PPs X pos keys values trs ∧ ∀ σ H Q, tA (cfg X B) W am σ H (fun ws H' => ∀ ps, ws = ps.flatMap (fun q : V × V => [q.1, q.2]) → ps.length = keys.length → Q ps H') → tPairs trs σ H Q
theorem imp_cons {G : Cfg} {σ : L2.St} {H : Hp} {Q : List V → Hp → Prop} (h : tA G W (consA m am) σ H Q) : tM G W m σ H fun x H1 => tA G W am σ H1 fun xs H2 => Q (x :: xs) H2 := by
  obtain ⟨F, ls, vs, ks, r, po⟩ := h
  refine ⟨F, ls, vs, ks, r, ?_⟩
  cases e1 : m ls with
  | ok k ls1 =>
    simp only [consA, e1, R.bindA] at po
    intro v F1 H1 R1
    refine ⟨F1, ls1, v :: vs, k :: ks, R1, ?_⟩
    cases e2 : am ls1 with
    | ok as ls2 =>
      simp only [e2] at po
      intro ws F2 H2 hl R2
      exact po (v :: ws) F2 H2 (by simp [hl]) (R2.rot hl)
    | err x ls2 =>
      simp only [e2] at po
      exact fun cls d F' H' r' e' => po cls d F' H' r'.pop e'
    | stk => simp only [e2, PostA] at po
  | err x ls1 => simp only [consA, e1, R.bindA] at po; exact po
  | stk => simp only [consA, e1, R.bindA, PostA] at po
end
def lr2 (ma mb : M) : M := fun ls => (ma ls).bind fun k1 ls => (mb ls).bind fun k2 ls => match k1, k2 with
  | .dat (.int i), .dat (.int j) => if -1000000 ≤ i ∧ i ≤ 1000000 ∧ -1000000 ≤ j ∧ j ≤ 1000000 then .ok (.own (.lst (rangeD i (j - i).toNat))) ls else .stk
  | _, _ => .stk
section
variable {X : Cx} {B : Base} {W : WX} {a b : Expr} {ma mb : M} {pos p p2 q2 : Pos}
end
section
variable {X : Cx} {B : Base} {W : WX} {im : IM} {t : TgM} {mt mk mv : M} {is : List Nat} {kx vx tg iter c : Expr} {scope : Scope} {ow : List (Str × Nat)} {pos : Pos} {p : Pth} {g : D → Option (List D)}
end
end VM
namespace VM
open PySem PySem.Spec L2 PyProof.Rows
theorem kbinds_kwd {K : Frag} {x qual : Str} {st : Stmt} {f : Addr} {fd : FuncData} {ps : List Str} {y : Str} {n : Nat} (F : L2.Fun K x qual st f fd)
    (h : ∀ (kV doc pm : Value) (an : Option Addr) (cdv ct : Value) (us : List Value) (v : Value), us.length = n →
      bindArgs (PySem.W.fnOf x qual (defArgs st) (defBody st) (defScope st) .none kV doc pm an cdv ct) ⟨us, [(y, v)]⟩ = pure (ps.zip (us ++ [v]))) : KBn K fd ps n [y] (fun us ws => us ++ ws) (fun vs zs => vs ++ zs) := by
  obtain ⟨oc, od, kV, doc, pm, an, cdv, ct, osl, rfl, lk, hcd⟩ := F.ex
  refine ⟨fun s us ws X l1 l2 => ?_, fun r1 r2 => r1.append r2⟩
  match ws, l2 with
  | [v], _ => exact .of_eq (h kV doc pm an cdv ct us v l1)
section
variable {X : Cx} {CX : CXT} {k n : Nat} {f C : Addr} {fd : FuncData} {pn ks : List Str} {sp : Sp} {E : L2.St → XK} {x : Str} {p pos : Pos} {e : Expr} {es : List Expr} {kws : List Keyword} {t tk : TA} {g : List Value → List Value → List Value} {gV : List V → List V → List V}
def tMakeX (C : Addr) (zs : List V) (sp : Sp) (E : L2.St → XK) (t : TA) : TE := fun σ H Q => t σ H fun vs H1 => vs.length + zs.length + 1 = n ∧ ∀ x dx, H1 x = none → H1 dx = none → dx ≠ x →
  sp (.ref x :: (vs ++ zs)) (upd (upd H1 dx (.own x)) x (.ins C dx [])) (fun v H2 => v = .non ∧ Q (.ref x) H2) (E σ)
end
def appC (am : AM) (d : D) : AM := fun ls => match am ls with
  | .ok as ls => .ok (as ++ [.dat d]) ls
  | .err x ls => .err x ls
  | .stk => .stk
section
variable {X : Cx} {B : Base} {W : WX} {e : Expr} {es : List Expr} {am : AM} {f C : Addr} {fd : FuncData} {pn : List Str} {k n : Nat} {g : List Slot → RF} {p pos : Pos}
end
end VM
set_option maxHeartbeats 400000
namespace VM
open PySem PySem.Spec PyProof.Rows L2
def PrsOf (H : Hp) : HO → List (V × V) → Prop
  | .dK kvs, prs => prs = kvs.map fun p => (kV p.1, p.2)
  | .dT kvs, prs => Paired (fun (p : V × V) (kv : List Key × V) => ∃ q, p.1 = .ref q ∧ H q = some (.tup (kv.1.map kV)) ∧ p.2 = kv.2) prs kvs
  | _, _ => False
def RawOf (H : Hp) (h : Heap) (d : Addr) (u : HO) : Prop := ∃ (es : Array DictEntry) (ep : Nat) (prs : List (V × V)), (d == sysModules) = false ∧ h.DictRaw d es ep ∧ PrsOf H u prs ∧ prs.length ≤ sizeLine ∧ es.size = prs.length ∧
      ∀ (i : Nat) (p : V × V), prs[i]? = some p → ∃ en, es[i]? = some en ∧ RelV p.1 en.key ∧ RelV p.2 en.val
section
variable {P : Program} {w : World} {H : Hp} {h : Heap} {d : Addr}
end
section
variable {X : Cx}
def tListItemsA (te : TE) : TE := fun σ H Q => te σ H fun x H1 => ∃ (d : Addr) (u : HO), x = .ref d ∧ isDc u ∧ Rd H1 d u ∧ ∀ (prs : List (V × V)), PrsOf H1 u prs →
  ∀ (q : Addr) (ts : List Addr), H1 q = none → (∀ t ∈ ts, H1 t = none) → ts.Nodup → q ∉ ts → ts.length = prs.length → Q (.ref q) (RZ.putZ (upd H1 q (.lst (ts.map V.ref))) ts prs)
variable {e : Expr} {te : TE} {p apos cpos pos : Pos}
end
def itemsM (m : M) : M := fun ls => (m ls).bind fun k ls => match look ls k with
  | some x => (match itemsD2 x with
    | some ds => .ok (.own (.lst ds)) ls
    | none => .stk)
  | none => .stk
section
variable {X : Cx} {B : Base} {W : WX} {e : Expr} {m : M} {p apos cpos pos : Pos}
end
def valI {K : Type} [DecidableEq K] (kb : List (K × Int)) (k : K) : Option Int := (kb.find? fun p => decide (p.1 = k)).map (·.2)
def eqI {K : Type} [DecidableEq K] (ka kb : List (K × Int)) : Bool := ka.length == kb.length && ka.all fun p => valI kb p.1 == some p.2
section
variable {prog : Program} {w : World} {K : Type} [DecidableEq K] {knd : HeapKind prog w K} {A : Around} {E : Value → Shared → Prop} {s : Shared}
def IntVs (xs : List (K × Addr × Value)) (f : List (K × Int)) : Prop := Paired (fun (x : K × Addr × Value) (p : K × Int) => x.1 = p.1 ∧ ∃ t, x.2.2 = Value.int p.2 t) xs f
theorem IntVs.none {xs : List (K × Addr × Value)} {f : List (K × Int)} (h : IntVs xs f) {k : K} (hn : ∀ (j : Nat) (p : Addr × Value), xs[j]? ≠ some (k, p)) : valI f k = none := by
  induction h with
  | nil => rfl
  | @cons x p xs f a r ih =>
    have hx : ¬ p.1 = k := fun z => hn 0 x.2 (by rw [List.getElem?_cons_zero, ← z, ← a.1])
    have := ih fun j q z => hn (j + 1) q (by rw [List.getElem?_cons_succ]; exact z)
    unfold valI at this ⊢
    rw [List.find?_cons_of_neg (by simpa using hx)]
    exact this
theorem IntVs.get {xs : List (K × Addr × Value)} {f : List (K × Int)} (h : IntVs xs f) {i : Nat} {x : K × Addr × Value} (hx : xs[i]? = some x) : ∃ c t, f[i]? = some (x.1, c) ∧ x.2.2 = Value.int c t := by
  obtain ⟨p, h1, h2, t, h3⟩ := L2.paired_get h hx
  exact ⟨p.2, t, by rw [h1, h2], h3⟩
theorem IntVs.some {xs : List (K × Addr × Value)} {f : List (K × Int)} (h : IntVs xs f) (hn : (xs.map (·.1)).Nodup) {j : Nat} {k : K} {q : Addr × Value} (hj : xs[j]? = some (k, q)) : ∃ c t, valI f k = some c ∧ q.2 = Value.int c t := by
  induction h generalizing j with
  | nil => simp at hj
  | @cons x p xs f a r ih =>
    rw [List.map_cons, List.nodup_cons] at hn
    cases j with
    | zero =>
      rw [List.getElem?_cons_zero] at hj
      cases hj
      obtain ⟨e1, t, e2⟩ := a
      refine ⟨p.2, t, ?_, e2⟩
      unfold valI
      rw [List.find?_cons_of_pos (by simpa using e1.symm)]
      rfl
    | succ j =>
      rw [List.getElem?_cons_succ] at hj
      obtain ⟨c, t, h1, h2⟩ := ih hn.2 hj
      refine ⟨c, t, ?_, h2⟩
      have hx : ¬ p.1 = k := fun z => hn.1 (by rw [a.1, z]; exact List.mem_map.mpr ⟨_, List.mem_of_getElem? hj, rfl⟩)
      unfold valI at h1 ⊢
      rw [List.find?_cons_of_neg (by simpa using hx)]
      exact h1
end
def mergeT {κ : Type} [DecidableEq κ] (kvs more : List (κ × V)) : List (κ × V) := more.foldl (fun acc kv => putK acc kv.1 kv.2) kvs
section
variable {X : Cx}
end
def prT : List D → Option (List (List Key × D))
  | [] => some []
  | .tup [a, b] :: r => (match keyT a, prT r with
    | some k, some ps => some ((k, b) :: ps)
    | _, _ => none)
  | _ => none
def mergeGT (es more : List (List Key × D)) : List (List Key × D) := more.foldl (fun acc kv => putG acc kv.1 kv.2) es
def dictPTD : List D → Option Slot
  | [.lst ds] => (prT ds).map fun ps => .own (.dT (mergeGT [] ps))
  | _ => none
def intsT : List (List Key × D) → Option (List (List Key × Int))
  | [] => some []
  | (k, .int i) :: r => (intsT r).map ((k, i) :: ·)
  | _ => none
def VI (kvs : List (List Key × V)) (ka : List (List Key × Int)) : Prop := Paired (fun (x : List Key × V) (p : List Key × Int) => x.1 = p.1 ∧ x.2 = .int p.2) kvs ka
def rEqTT (b0 : Bool) : R2 := fun x y H Q => ∃ a b kvs ls ka kb, x = .ref a ∧ y = .ref b ∧ Rd H a (.dT kvs) ∧ Rd H b (.dT ls) ∧ VI kvs ka ∧ VI ls kb ∧ Q (.bl (eqI ka kb == b0)) H
section
variable {X : Cx}
end
def eqTTD (b0 : Bool) (x y : D) : Option Slot := match x, y with
  | .dT es, .dT fs => (match intsT es, intsT fs with
    | some ka, some kb => some (.dat (.bl (eqI ka kb == b0)))
    | _, _ => none)
  | _, _ => none
def listXD : List D → Option Slot
  | [.dK es] => some (.own (.lst (es.map fun e => kD e.1)))
  | [.dT es] => some (.own (.lst (es.map fun e => keyD e.1)))
  | _ => none
def rListX : List V → Hp → VK → Prop := fun xs H Q => (∃ (a : Addr) (kvs : List (Key × V)), xs = [.ref a] ∧ Rd H a (.dK kvs) ∧ ∀ p, H p = none → Q (.ref p) (upd H p (.lst (kvs.map fun kv => kV kv.1)))) ∨
  ∃ d kvs, xs = [V.ref d] ∧ Rd H d (.dT kvs) ∧ ∀ p bs, H p = none → IsKeys H kvs bs → Q (.ref p) (upd H p (.lst (bs.map V.ref)))
end VM
namespace L2
open PySem PySem.Spec PyProof.Rows
section
variable {X : Cx}
end
end L2
namespace VM
open PySem L2
def fzS (i : Nat) (sa : SM) : SM := fun ls => match sa ls with
  | .nx ls => .nx (frzV (.v i) ls)
  | r => r
def fz0 (i : Nat) (sa : SM) : SM := fun ls => sa (frzV (.v i) ls)
section
variable {X : Cx} {B : Base} {W : WX} {st : Stmt} {sts : List Stmt} {sa : SM}
theorem s_fz (i : Nat) (h : L2.PS X st (tS (cfg X B) W sa)) : L2.PS X st (tS (cfg X B) W (fzS i sa)) := PS.imp h fun D σ H h => by
  obtain ⟨F, ls, vs, ks, na, R, po⟩ := h
  refine ⟨F, ls, vs, ks, na, R, ?_⟩
  unfold fzS at po
  cases e : sa ls with
  | nx ls1 =>
    rw [e] at po
    intro σ' F' H' R'
    obtain ⟨F2, _, R2⟩ := frzV_ok R' (.v i)
    exact po σ' F2 H' R2
  | err x ls1 => rw [e] at po; exact po
  | brk ls1 => rw [e] at po; exact po
  | cnt ls1 => rw [e] at po; exact po
  | ret k ls1 => rw [e] at po; exact po
  | stk => rw [e] at po; exact po
theorem ss_fz0 (i : Nat) (h : L2.PSs X sts (tS (cfg X B) W sa)) : L2.PSs X sts (tS (cfg X B) W (fz0 i sa)) := PSs.imp h fun D σ H h => by
  obtain ⟨F, ls, vs, ks, na, R, po⟩ := h
  obtain ⟨F2, _, R2⟩ := frzV_ok R (.v i)
  exact ⟨F2, frzV (.v i) ls, vs, ks, na, R2, po⟩
end
section
variable {X : Cx} {B : Base} {W : WX} {im : IM} {t : TgM} {mt mk mv : M} {is : List Nat} {kx vx tg iter c : Expr} {scope : Scope} {ow : List (Str × Nat)} {pos : Pos} {p : Pth} {g : D → Option (List D)}
end
end VM
namespace VM
open PySem PySem.Spec PyProof.Rows L2
def leastI : List Int → Option Int
  | [] => none
  | b :: bs => some (bs.foldl min b)
def mostI : List Int → Option Int
  | [] => none
  | b :: bs => some (bs.foldl max b)
def minLD : List D → Option Slot
  | [.lst ds] => ((intsD ds).bind leastI).map fun m => .dat (.int m)
  | _ => none
def maxLD : List D → Option Slot
  | [.lst ds] => ((intsD ds).bind mostI).map fun m => .dat (.int m)
  | _ => none
def popE : D → List D → Option (D × D)
  | .lst xs, [] => match xs[xs.length - 1]? with
    | some d => some (.lst xs.dropLast, d)
    | none => none
  | _, _ => none
theorem DDs.dropLast {K : PySem.W.Frag} {mg : Str → Option Value} {F : Hp} {ds : List D} {xs : List V} (h : DDs K mg F ds xs) : DDs K mg F ds.dropLast xs.dropLast := by
  rw [List.dropLast_eq_take, List.dropLast_eq_take, h.length]
  exact h.take
section
variable {X : Cx} {B : Base} {W : WX} {o : Expr} {om : M} {pos p apos cpos : Pos} {name : Str} {id T : String}
end
end VM
set_option maxHeartbeats 4000000
namespace VM
def lexL : List Int → List Int → Bool
  | [], [] => false
  | [], _ :: _ => true
  | _ :: _, [] => false
  | x :: xs, y :: ys => if x = y then lexL xs ys else decide (x < y)
end VM
namespace L2
open PySem PySem.Spec PyProof.Rows SrtO Srt TS
open VM (lexL)
section
variable {prog : Program} {w : World} {A : Around} {E : Value → Shared → Prop} {s : Shared} {Q : Bool → Shared → Prop}
end
def runOf (H : Hp) : Value → List Int
  | .ref b => (match H b with
    | some (.tup xs) => xs.filterMap fun v => match v with | .int i => some i | _ => none
    | _ => [])
  | _ => []
def RunAt (H : Hp) (q : List Int) (b : Addr) : Prop := H b = some (.tup (q.map V.int))
section
variable {X : Cx}
def rk (q : List Int) : List Key := q.map Sum.inl
def rSortR : List V → Hp → VK → Prop := fun xs H Q => ∃ d kvs ps, xs = [V.ref d] ∧ Rd H d (.dT kvs) ∧ kvs.map (·.1) = ps.map rk ∧ (∀ p ∈ ps, p ≠ []) ∧
  ∀ p bs (out : List (List Int)), H p = none → out.Perm ps → Srtd lexL out → Paired (RunAt H) out bs → Q (.ref p) (upd H p (.lst (bs.map V.ref)))
end
end L2
namespace VM
open PySem L2
def sortR (ps : List (List Int)) : List (List Int) := ps.mergeSort fun p q => !lexL q p
def inlsK : List Key → Option (List Int)
  | [] => some []
  | .inl a :: r => (inlsK r).map (a :: ·)
  | _ => none
def runsK : List (List Key) → Option (List (List Int))
  | [] => some []
  | k :: r => match inlsK k, runsK r with
    | some (a :: p), some ps => some ((a :: p) :: ps)
    | _, _ => none
def sortRD : List D → Option Slot
  | [.dT es] => (runsK (es.map (·.1))).map fun ps => .own (.lst ((sortR ps).map fun p => .tup (p.map .int)))
  | _ => none
end VM
set_option maxHeartbeats 400000
namespace L2
open PySem PySem.Spec PySem.Calls PyProof.Rows
def instP (K : PySem.W.Frag) (x C : Addr) (h : Heap) : Prop := K.In h ∧ ∃ ox od, PySem.W.InstAt h x ox C od ∧ ox.data = .plain
section
variable {M : Model} {A : Around} {E : Value → Shared → Prop} {s : Shared} {K : PySem.W.Frag} {env : Env} {pos : Pos} {x C : Addr} {first : List Value} {Q : Value → Shared → Prop}
end
end L2
namespace VM
open PySem PySem.Spec PySem.Calls PyProof.Rows L2
def tObjD (C : Addr) (sp : Sp) (E : L2.St → XK) (ta : TE) (t : TA) : TE := fun σ H Q => ta σ H fun x H1 => ∃ a dx fs, x = .ref a ∧ H1 a = some (.ins C dx fs) ∧
  t σ H1 fun vs H2 => (∃ dx fs, H2 a = some (.ins C dx fs)) ∧ sp (x :: vs) H2 Q (E σ)
section
variable {X : Cx} {B : Base} {W : WX} {e : Expr} {es : List Expr} {x : Str} {p pos : Pos} {C f : Addr} {fd : FuncData} {pn : List Str} {sp : Sp} {k n : Nat} {ta : TE} {t : TA} {E : L2.St → XK} {om : M} {am : AM} {xs : List Str} {g : List Slot → RF} {CX : CXT}
def objC (xs : List Str) (n : Nat) (f : List Slot → RF) (om : M) (am : AM) : M := fun ls => (om ls).bind fun k ls => match look ls k with
  | some (.ins y gs) => if y ∈ xs then (am ls).bind fun as ls => (match look ls k with
      | some (.ins y2 gs2) => if y2 ∈ xs ∧ as.length = n then callK f (k :: as) ls else .stk
      | _ => .stk) else .stk
  | _ => .stk
end
end VM
namespace PySem.W
open PySem PySem.Spec PySem.Calls PyProof.Rows
section
variable {prog : Program} {w : World} {A : Around} {E : Value → Shared → Prop} {s : Shared} {K : Frag} {x C f : Addr} {ox : Obj} {od : Option Obj}
end
end PySem.W
namespace VM
open PySem PySem.Spec PySem.Calls PyProof.Rows L2
section
variable {X : Cx} {B : Base} {W : WX} {a b : Expr} {pos : Pos} {C f : Addr} {fd : FuncData} {pn : List Str} {sp : Sp} {k : Nat} {ta tb : TE} {E : L2.St → XK} {am im : M} {xs : List Str} {g : List Slot → RF} {CX : CXT}
def rGetO (C : Addr) (sp : Sp) (E : XK) : R2 := fun x y H Q => ∃ p dx fs, x = .ref p ∧ H p = some (.ins C dx fs) ∧ sp [x, y] H Q E
def tGetO (C : Addr) (sp : Sp) (E : L2.St → XK) (ta tb : TE) : TE := fun σ H Q => tOp (rGetO C sp (E σ)) ta tb σ H Q
def OwnIx (b : Expr) : Prop := ∀ o i, subscripted b true o i = runValue (.builtin "lifetime.subscript" ⟨[o, i], []⟩)
def getO (xs : List Str) (f : List Slot → RF) (om im : M) : M := fun ls => (om ls).bind fun k1 ls => (im ls).bind fun k2 ls => match look ls k1 with
  | some (.ins y gs) => if y ∈ xs then callK f [k1, k2] ls else .stk
  | _ => .stk
end
section
variable {X : Cx} {B : Base} {W : WX} {a b : Expr} {pos : Pos} {C f : Addr} {fd : FuncData} {pn : List Str} {sp : Sp} {k : Nat} {ta tb : TE} {E : L2.St → XK} {am bm : M} {xs : List Str} {g : List Slot → RF} {CX : CXT} {op : Operator}
def rBinC (C : Addr) (sp : Sp) (E : XK) : R2 := fun x y H Q => ∃ p dx fs p2 dx2 fs2, x = .ref p ∧ H p = some (.ins C dx fs) ∧ y = .ref p2 ∧ H p2 = some (.ins C dx2 fs2) ∧ sp [x, y] H Q E
def tBinC (C : Addr) (sp : Sp) (E : L2.St → XK) (ta tb : TE) : TE := fun σ H Q => tOp (rBinC C sp (E σ)) ta tb σ H Q
def binC (xs : List Str) (f : List Slot → RF) (am bm : M) : M := fun ls => (am ls).bind fun k1 ls => (bm ls).bind fun k2 ls => match look ls k1, look ls k2 with
  | some (.ins y gs), some (.ins y2 gs2) => if y ∈ xs ∧ y2 ∈ xs then callK f [k1, k2] ls else .stk
  | _, _ => .stk
def rBinI (C : Addr) (sp : Sp) (E : XK) : R2 := fun x y H Q => ∃ p dx fs i, x = .ref p ∧ H p = some (.ins C dx fs) ∧ y = .int i ∧ sp [x, y] H Q E
def tBinI (C : Addr) (sp : Sp) (E : L2.St → XK) (ta tb : TE) : TE := fun σ H Q => tOp (rBinI C sp (E σ)) ta tb σ H Q
def binI (xs : List Str) (f : List Slot → RF) (am bm : M) : M := fun ls => (am ls).bind fun k1 ls => (bm ls).bind fun k2 ls => match look ls k1, look ls k2 with
  | some (.ins y gs), some (.int i) => if y ∈ xs then callK f [k1, k2] ls else .stk
  | _, _ => .stk
end
end VM
namespace PySem.W
open PySem PySem.Spec PySem.Calls PyProof.Rows
section
variable {prog : Program} {w : World} {A : Around} {E : Value → Shared → Prop} {s : Shared} {K : Frag} {x C f : Addr} {ox : Obj} {od : Option Obj}
end
end PySem.W
namespace VM
open PySem PySem.Spec PySem.Calls PyProof.Rows L2
section
variable {X : Cx} {B : Base} {W : WX} {a b : Expr} {pos : Pos} {C f : Addr} {fd : FuncData} {pn : List Str} {sp : Sp} {k : Nat} {ta tb : TE} {E : L2.St → XK} {am bm : M} {xs : List Str} {g : List Slot → RF} {CX : CXT} {fm : Addr}
def rMulI (C : Addr) (sp : Sp) (E : XK) : R2 := fun x y H Q => ∃ p dx fs i, y = .ref p ∧ H p = some (.ins C dx fs) ∧ x = .int i ∧ sp [y, x] H Q E
def tMulI (C : Addr) (sp : Sp) (E : L2.St → XK) (ta tb : TE) : TE := fun σ H Q => tOp (rMulI C sp (E σ)) ta tb σ H Q
def mulI (xs : List Str) (f : List Slot → RF) (am bm : M) : M := fun ls => (am ls).bind fun k1 ls => (bm ls).bind fun k2 ls => match look ls k1, look ls k2 with
  | some (.int i), some (.ins y gs) => if y ∈ xs then callK f [k2, k1] ls else .stk
  | _, _ => .stk
def stkM : M := fun _ => .stk
end
section
variable {X : Cx} {B : Base} {W : WX} {a b c : Expr} {am : AM} {pos : Pos}
end
end VM
namespace VM
open PySem PySem.Spec L2
section
variable {x : Exn} {ls ls' : LS} {k : Slot} {d : D} {i j : Nat}
@[simp] theorem Rb_ok {f : Slot → LS → R} : (R.ok k ls).bind f = f k ls := rfl
@[simp] theorem Rb_err {f : Slot → LS → R} : (R.err x ls).bind f = .err x ls := rfl
@[simp] theorem Rb_stk {f : Slot → LS → R} : R.stk.bind f = .stk := rfl
@[simp] theorem RbA_ok {f : Slot → LS → RA} : (R.ok k ls).bindA f = f k ls := rfl
@[simp] theorem RbA_err {f : Slot → LS → RA} : (R.err x ls).bindA f = .err x ls := rfl
@[simp] theorem RbS_ok {f : Slot → LS → S} : (R.ok k ls).bindS f = f k ls := rfl
@[simp] theorem RbS_err {f : Slot → LS → S} : (R.err x ls).bindS f = .err x ls := rfl
@[simp] theorem RAb_ok {as : List Slot} {f : List Slot → LS → R} : (RA.ok as ls).bind f = f as ls := rfl
@[simp] theorem RAb_err {f : List Slot → LS → R} : (RA.err x ls).bind f = .err x ls := rfl
@[simp] theorem Sb_nx {f : LS → S} : (S.nx ls).bind f = f ls := rfl
@[simp] theorem Sb_ret {f : LS → S} : (S.ret k ls).bind f = .ret k ls := rfl
@[simp] theorem Sb_brk {f : LS → S} : (S.brk ls).bind f = .brk ls := rfl
@[simp] theorem Sb_cnt {f : LS → S} : (S.cnt ls).bind f = .cnt ls := rfl
@[simp] theorem Sb_err {f : LS → S} : (S.err x ls).bind f = .err x ls := rfl
@[simp] theorem RIb_ok {items : List D} {g : Gd} {f : List D → Gd → LS → S} : (RI.ok items g ls).bind f = f items g ls := rfl
@[simp] theorem varM_ap : varM i ls = match ls[i]? with
  | some (.dat d) => .ok (.dat d) ls
  | some (.pdt d) => .ok (.dat d) ls
  | some (.own _) => .ok (.ali i) ls
  | some (.par _) => .ok (.ali i) ls
  | some (.tre _) => .ok (.ali i) ls
  | some (.ptr _) => .ok (.ali i) ls
  | _ => .stk := rfl
@[simp] theorem conM_ap : conM d ls = .ok (.dat d) ls := rfl
@[simp] theorem ownM_ap : ownM d ls = .ok (.own d) ls := rfl
@[simp] theorem look_dat : look ls (.dat d) = some d := rfl
@[simp] theorem look_own : look ls (.own d) = some d := rfl
@[simp] theorem look_ali : look ls (.ali i) = match ls[i]? with
    | some (.dat d) => some d
    | some (.pdt d) => some d
    | some (.own d) => some d
    | some (.par d) => some d
    | _ => none := rfl
@[simp] theorem binM_ap {g : D → D → Option Slot} {a b : M} : binM g a b ls = (a ls).bind fun k1 ls => (b ls).bind fun k2 ls => lift2 g k1 k2 ls := rfl
@[simp] theorem lift2_ap {g : D → D → Option Slot} {k1 k2 : Slot} : lift2 g k1 k2 ls = match look ls k1, look ls k2 with
  | some x, some y => (match g x y with
    | some k => .ok k ls
    | none => .stk)
  | _, _ => .stk := rfl
@[simp] theorem unM_ap {g : D → Option Slot} {a : M} : unM g a ls = (a ls).bind fun k ls => lift1 g k ls := rfl
@[simp] theorem lift1_ap {g : D → Option Slot} {k1 : Slot} : lift1 g k1 ls = match look ls k1 with
  | some x => (match g x with
    | some k => .ok k ls
    | none => .stk)
  | none => .stk := rfl
@[simp] theorem notM_ap {a : M} : notM a ls = (a ls).bind fun k ls => match k with
  | .dat (.bl b) => .ok (.dat (.bl (!b))) ls
  | _ => .stk := rfl
@[simp] theorem andM_ap {a b : M} : andM a b ls = (a ls).bind fun k ls => match k with
  | .dat (.bl true) => b ls
  | .dat (.bl false) => .ok (.dat (.bl false)) ls
  | _ => .stk := rfl
@[simp] theorem orM_ap {a b : M} : orM a b ls = (a ls).bind fun k ls => match k with
  | .dat (.bl true) => .ok (.dat (.bl true)) ls
  | .dat (.bl false) => b ls
  | _ => .stk := rfl
@[simp] theorem iteM_ap {c a b : M} : iteM c a b ls = (c ls).bind fun k ls => match k with
  | .dat (.bl true) => a ls
  | .dat (.bl false) => b ls
  | _ => .stk := rfl
@[simp] theorem chainM_ap {g g' : D → D → Option Slot} {a b c : M} : chainM g g' a b c ls = (a ls).bind fun k1 ls => (b ls).bind fun k2 ls => match lift2 g k1 k2 ls with
  | .ok (.dat (.bl true)) ls => (c ls).bind fun k3 ls => lift2 g' k2 k3 ls
  | .ok (.dat (.bl false)) ls => .ok (.dat (.bl false)) ls
  | _ => .stk := rfl
@[simp] theorem nilA_ap : nilA ls = .ok [] ls := rfl
@[simp] theorem consA_ap {m : M} {r : AM} : consA m r ls = (m ls).bindA fun k ls => match r ls with
  | .ok as ls => .ok (k :: as) ls
  | .err x ls => .err x ls
  | .stk => .stk := rfl
@[simp] theorem frzM_ap {m : M} : frzM m ls = (m ls).bind fun k ls => match freezeK k ls with
  | some (d, ls) => .ok (.dat d) ls
  | none => .stk := rfl
@[simp] theorem freezeK_dat : freezeK (.dat d) ls = some (d, ls) := rfl
@[simp] theorem freezeK_own : freezeK (.own d) ls = some (d, ls) := rfl
@[simp] theorem freezeK_ali : freezeK (.ali j) ls = match ls[j]? with
    | some (.own d) => some (d, ls.set j (.dat d))
    | some (.par d) => some (d, ls.set j (.pdt d))
    | some (.dat d) => some (d, ls)
    | some (.pdt d) => some (d, ls)
    | some (.tre t) => some (t.er, ls.set j (.dat t.er))
    | some (.ptr t) => some (t.er, ls.set j (.pdt t.er))
    | _ => none := rfl
@[simp] theorem dats_nil : dats [] = some [] := rfl
@[simp] theorem dats_cons {r : List Slot} : dats (.dat d :: r) = (dats r).map (d :: ·) := rfl
@[simp] theorem tupM_ap {am : AM} : tupM am ls = (am ls).bind fun as ls => match dats as with
  | some ds => if ds.length ≤ 1000 then .ok (.dat (.tup ds)) ls else .stk
  | none => .stk := rfl
@[simp] theorem lstM_ap {am : AM} : lstM am ls = (am ls).bind fun as ls => match dats as with
  | some ds => if ds.length ≤ 1000 then .ok (.own (.lst ds)) ls else .stk
  | none => .stk := rfl
@[simp] theorem nxM_ap : nxM ls = .nx ls := rfl
@[simp] theorem brkM_ap : brkM ls = .brk ls := rfl
@[simp] theorem cntM_ap : cntM ls = .cnt ls := rfl
@[simp] theorem seqM_ap {a b : SM} : seqM a b ls = (a ls).bind b := rfl
@[simp] theorem dropM_ap {m : M} : dropM m ls = (m ls).bindS fun _ ls => .nx ls := rfl
@[simp] theorem retM_ap {m : M} : retM m ls = (m ls).bindS fun k ls => .ret k ls := rfl
@[simp] theorem ifS_ap {c : M} {a b : SM} : ifS c a b ls = (c ls).bindS fun k ls => match k with
  | .dat (.bl true) => a ls
  | .dat (.bl false) => b ls
  | _ => .stk := rfl
@[simp] theorem asgM_ap {m : M} : asgM i m ls = (m ls).bindS fun k ls => asgK i k ls := rfl
@[simp] theorem asgK_dat : asgK i (.dat d) ls = .nx (ls.set i (.dat d)) := rfl
@[simp] theorem asgK_own : asgK i (.own d) ls = .nx (ls.set i (.own d)) := rfl
@[simp] theorem asgK_tre {t : T} : asgK i (.tre t) ls = .nx (ls.set i (.tre t)) := rfl
@[simp] theorem asgK_ali : asgK i (.ali j) ls = match freezeK (.ali j) ls with
    | some (d, ls) => .nx (ls.set i (.dat d))
    | none => .stk := rfl
@[simp] theorem asgT_ap {t : TgM} {m : M} : asgT t m ls = (m ls).bindS fun k ls => match freezeK k ls with
  | some (d, ls) => (match t d ls with
    | some ls => .nx ls
    | none => .stk)
  | none => .stk := rfl
@[simp] theorem asg2_ap {am : AM} : asg2 i j am ls = match am ls with
  | .ok [.dat d, .dat d'] ls => .nx ((ls.set i (.dat d)).set j (.dat d'))
  | .ok [.own d, .dat d'] ls => .nx ((ls.set i (.own d)).set j (.dat d'))
  | .ok [.dat d, .own d'] ls => .nx ((ls.set i (.dat d)).set j (.own d'))
  | .ok [.own d, .own d'] ls => .nx ((ls.set i (.own d)).set j (.own d'))
  | .err x ls => .err x ls
  | _ => .stk := rfl
@[simp] theorem tgN_ap : tgN i d ls = some (ls.set i (.dat d)) := rfl
@[simp] theorem tgs_nil : tgs [] [] ls = some ls := rfl
@[simp] theorem tgs_cons {t : TgM} {ts : List TgM} {ds : List D} : tgs (t :: ts) (d :: ds) ls = match t d ls with
    | some ls' => tgs ts ds ls'
    | none => none := rfl
@[simp] theorem tgT_tup {ts : List TgM} {ds : List D} : tgT ts (.tup ds) ls = if ds.length = ts.length then tgs ts ds ls else none := rfl
@[simp] theorem tgL_lst {ts : List TgM} {ds : List D} : tgL ts (.lst ds) ls = if ds.length = ts.length then tgs ts ds ls else none := rfl
@[simp] theorem callN_ap {n : Nat} {f : List Slot → RF} {am : AM} : callN n f am ls = (am ls).bind fun as ls => if as.length = n then callK f as ls else .stk := rfl
@[simp] theorem callQ_ap {n : Nat} {f : List Slot → RF} {am : AM} : callQ n f am ls = (am ls).bind fun as ls => if as.length = n then (match callK f as ls with
  | .ok k ls => .ok k ls
  | _ => .stk) else .stk := rfl
@[simp] theorem alis_nil : alis [] = [] := rfl
@[simp] theorem alis_ali {r : List Slot} : alis (.ali i :: r) = i :: alis r := rfl
@[simp] theorem alis_dat {r : List Slot} : alis (.dat d :: r) = alis r := rfl
@[simp] theorem alis_own {r : List Slot} : alis (.own d :: r) = alis r := rfl
@[simp] theorem hand1_dat : hand1 ls (.dat d) = some (.dat d) := rfl
@[simp] theorem hand1_own : hand1 ls (.own d) = some (.par d) := rfl
@[simp] theorem hand1_ali : hand1 ls (.ali i) = match ls[i]? with
    | some (.own d) => some (.par d)
    | some (.par d) => some (.par d)
    | some (.dat d) => some (.dat d)
    | some (.pdt d) => some (.dat d)
    | _ => none := rfl
@[simp] theorem hands_nil : hands ls [] = some [] := rfl
@[simp] theorem hands_cons {as : List Slot} : hands ls (k :: as) = match hand1 ls k, hands ls as with
    | some p, some ps => some (p :: ps)
    | _, _ => none := rfl
@[simp] theorem back1_op {a b : D} : back1 (.own a) (.par b) = some (some (.own b)) := rfl
@[simp] theorem back1_od {a b : D} : back1 (.own a) (.dat b) = some (some (.dat b)) := rfl
@[simp] theorem back1_pp {a b : D} : back1 (.par a) (.par b) = some (some (.par b)) := rfl
@[simp] theorem back1_pd {a b : D} : back1 (.par a) (.dat b) = some (some (.pdt b)) := rfl
@[simp] theorem back1_dd {a b : D} : back1 (.dat a) (.dat b) = some none := rfl
@[simp] theorem back1_qd {a b : D} : back1 (.pdt a) (.dat b) = some none := rfl
@[simp] theorem backs_nil : backs [] [] ls = some ls := rfl
@[simp] theorem backs_ali {as ps : List Slot} {p : Slot} : backs (.ali i :: as) (p :: ps) ls = match ls[i]? with
    | some s => (match back1 s p with
      | some (some s') => backs as ps (ls.set i s')
      | some none => backs as ps ls
      | none => none)
    | none => none := rfl
@[simp] theorem backs_dd {as ps : List Slot} {a b : D} : backs (.dat a :: as) (.dat b :: ps) ls = backs as ps ls := rfl
@[simp] theorem backs_od {as ps : List Slot} {a b : D} : backs (.own a :: as) (.dat b :: ps) ls = backs as ps ls := rfl
@[simp] theorem backs_op {as ps : List Slot} {a b : D} : backs (.own a :: as) (.par b :: ps) ls = backs as ps ls := rfl
@[simp] theorem callK_ap {f : List Slot → RF} {as : List Slot} : callK f as ls = if (alis as).Nodup then (match hands ls as with
  | some ps => (match f ps with
    | .ok k ps' => (match backs as ps' ls with
      | some ls' => if k.res = true then .ok k ls' else .stk
      | none => .stk)
    | .err x ps' => (match backs as ps' ls with
      | some ls' => .err x ls'
      | none => .stk)
    | .stk => .stk)
  | none => .stk) else .stk := rfl
@[simp] theorem res_dat : Slot.res (.dat d) = true := rfl
@[simp] theorem res_own : Slot.res (.own d) = true := rfl
@[simp] theorem settle_dat : settle (.dat d) ls = some (.dat d, ls) := rfl
@[simp] theorem settle_own : settle (.own d) ls = some (.own d, ls) := rfl
@[simp] theorem settle_ali : settle (.ali j) ls = match ls[j]? with
    | some (.own d) => some (.own d, ls.set j .emp)
    | some (.par d) => some (.dat d, ls.set j (.pdt d))
    | some (.dat d) => some (.dat d, ls)
    | some (.pdt d) => some (.dat d, ls)
    | some (.tre t) => some (.dat t.er, ls.set j (.dat t.er))
    | _ => none := rfl
@[simp] theorem outs_nil : outs [] ls = some [] := by cases ls <;> rfl
@[simp] theorem outs_dat {ps : List Slot} {s : Slot} : outs (.dat d :: ps) (s :: ls) = (outs ps ls).map (.dat d :: ·) := rfl
@[simp] theorem outs_pp {ps : List Slot} {a b : D} : outs (.par a :: ps) (.par b :: ls) = (outs ps ls).map (.par b :: ·) := rfl
@[simp] theorem outs_pd {ps : List Slot} {a b : D} : outs (.par a :: ps) (.pdt b :: ls) = (outs ps ls).map (.dat b :: ·) := rfl
@[simp] theorem finF_ret {ps : List Slot} : finF ps (.ret k ls) = match settle k ls with
    | some (k', ls') => (match outs ps ls' with
      | some ps' => .ok k' ps'
      | none => .stk)
    | none => .stk := rfl
@[simp] theorem finF_nx {ps : List Slot} : finF ps (.nx ls) = match outs ps ls with
    | some ps' => .ok (.dat .non) ps'
    | none => .stk := rfl
@[simp] theorem finF_err {ps : List Slot} : finF ps (.err x ls) = match outs ps ls with
    | some ps' => .err x ps'
    | none => .stk := rfl
@[simp] theorem startLS_ap {n : Nat} {ps : List Slot} : startLS n ps = ps ++ List.replicate (n - ps.length) .emp := rfl
@[simp] theorem addD_i {a b : Int} : addD (.int a) (.int b) = some (.dat (.int (a + b))) := rfl
@[simp] theorem addD_l {a b : List D} : addD (.lst a) (.lst b) = if a.length + b.length ≤ 1000000 then some (.own (.lst (a ++ b))) else none := rfl
@[simp] theorem subD_i {a b : Int} : subD (.int a) (.int b) = some (.dat (.int (a - b))) := rfl
@[simp] theorem negD_i {a : Int} : negD (.int a) = some (.dat (.int (-a))) := rfl
@[simp] theorem ltD_i {a b : Int} : ltD (.int a) (.int b) = some (.dat (.bl (decide (a < b)))) := rfl
@[simp] theorem leD_i {a b : Int} : leD (.int a) (.int b) = some (.dat (.bl (decide (a ≤ b)))) := rfl
@[simp] theorem gtD_i {a b : Int} : gtD (.int a) (.int b) = some (.dat (.bl (decide (b < a)))) := rfl
@[simp] theorem geD_i {a b : Int} : geD (.int a) (.int b) = some (.dat (.bl (decide (b ≤ a)))) := rfl
@[simp] theorem mulD_i {a b : Int} : mulD (.int a) (.int b) = if ((-(2 ^ 64) < a ∧ a < 2 ^ 64) ∨ (-(2 ^ 64) < b ∧ b < 2 ^ 64)) ∨ a.natAbs.log2 + b.natAbs.log2 < 1000000 then some (.dat (.int (a * b))) else none := rfl
@[simp] theorem modD_i {a b : Int} : modD (.int a) (.int b) = if 0 < b then some (.dat (.int (a % b))) else none := rfl
@[simp] theorem powD_i {a b : Int} : powD (.int a) (.int b) = if 0 ≤ b ∧ b ≤ 1000 ∧ a.natAbs < 1000 then some (.dat (.int (a ^ b.toNat))) else none := rfl
@[simp] theorem isnD_n : isnD .non .non = some (.dat (.bl true)) := rfl
@[simp] theorem looks_nil : looks ls [] = some [] := rfl
@[simp] theorem looks_cons {r : List Slot} : looks ls (k :: r) = match look ls k, looks ls r with
    | some d, some ds => some (d :: ds)
    | _, _ => none := rfl
@[simp] theorem bltM_ap {g : List D → Option Slot} {am : AM} : bltM g am ls = (am ls).bind fun as ls => match looks ls as with
  | some ds => (match g ds with
    | some k => .ok k ls
    | none => .stk)
  | none => .stk := rfl
@[simp] theorem absD_i {a : Int} : absD [.int a] = some (.dat (.int (if a < 0 then -a else a))) := rfl
@[simp] theorem intD_i {a : Int} : intD [.int a] = some (.dat (.int a)) := rfl
@[simp] theorem maxD_i {a b : Int} : maxD [.int a, .int b] = some (.dat (.int (if b > a then b else a))) := rfl
@[simp] theorem minD_i {a b : Int} : minD [.int a, .int b] = some (.dat (.int (if b < a then b else a))) := rfl
@[simp] theorem lenD_l {ds : List D} : lenD [.lst ds] = some (.dat (.int ds.length)) := rfl
@[simp] theorem lenD_t {ds : List D} : lenD [.tup ds] = some (.dat (.int ds.length)) := rfl
@[simp] theorem lenD_s {ds : List Int} : lenD [.scr ds] = some (.dat (.int ds.length)) := rfl
@[simp] theorem lenD_dT {ds : List (List Key × D)} : lenD [.dT ds] = some (.dat (.int ds.length)) := rfl
@[simp] theorem listD_l {ds : List D} : listD [.lst ds] = some (.own (.lst ds)) := rfl
@[simp] theorem tupleD_l {ds : List D} : tupleD [.lst ds] = some (.dat (.tup ds)) := rfl
@[simp] theorem isiM_ap {tb : D → Option Bool} {tc : Str → Option Bool} {om : M} : isiM tb tc om ls = (om ls).bind fun k ls => match look ls k with
  | some d => (match isiD tb tc d with
    | some b => .ok (.dat (.bl b)) ls
    | none => .stk)
  | none => .stk := rfl
@[simp] theorem fldM_ap {xs : List Str} {f : Str} {om : M} : fldM xs f om ls = (om ls).bind fun k ls => match look ls k with
  | some (.ins y gs) => if y ∈ xs then (match gs.lookup f with
    | some d => .ok (.dat d) ls
    | none => .stk) else .stk
  | _ => .stk := rfl
@[simp] theorem chg_ap {g : D → Option D} : chg i g ls = match ls[i]? with
  | some (.own d) => (g d).map fun d' => ls.set i (.own d')
  | some (.par d) => (g d).map fun d' => ls.set i (.par d')
  | _ => none := rfl
@[simp] theorem setF_ap {xs : List Str} {f : Str} {om vm : M} : setF xs f om vm ls = (frzM vm ls).bindS fun k ls => match k with
  | .dat d => (om ls).bindS fun ko ls => (match ko with
    | .ali i => (match chg i (fldG xs f d) ls with
      | some ls => .nx ls
      | none => .stk)
    | _ => .stk)
  | _ => .stk := rfl
@[simp] theorem setI_ap {om im vm : M} : setI om im vm ls = (frzM vm ls).bindS fun kv ls => match kv with
  | .dat d => (om ls).bindS fun ko ls => (im ls).bindS fun ki ls => (match ko, look ls ki with
    | .ali j, some i => (match chg j (fun x => setD x i d) ls with
      | some ls => .nx ls
      | none => .stk)
    | _, _ => .stk)
  | _ => .stk := rfl
@[simp] theorem mutM_ap {ty : D → Bool} {g : D → List D → Option (D × D)} {om : M} {am : AM} : mutM ty g om am ls = (om ls).bind fun ko ls => match ko with
  | .ali i => if tyAt ls i ty = true then
      ((am ls).bind fun as ls => match dats as, ls[i]? with
      | some ds, some (.own d) => (match g d ds with
        | some (d', r) => .ok (.dat r) (ls.set i (.own d'))
        | none => .stk)
      | some ds, some (.par d) => (match g d ds with
        | some (d', r) => .ok (.dat r) (ls.set i (.par d'))
        | none => .stk)
      | _, _ => .stk) else .stk
  | _ => .stk := rfl
@[simp] theorem tyAt_ap {ty : D → Bool} : tyAt ls i ty = match ls[i]? with
  | some (.own d) => ty d
  | some (.par d) => ty d
  | _ => false := rfl
@[simp] theorem isLst_l {ds : List D} : isLst (.lst ds) = true := rfl
@[simp] theorem appG_l {xs : List D} : appG (.lst xs) [d] = if xs.length < 1000000 then some (.lst (xs ++ [d]), .non) else none := rfl
@[simp] theorem fgtS_ap {own : List Nat} {s : SM} : fgtS own s ls = s (wipeL ls own) := rfl
@[simp] theorem wipeL_nil : wipeL ls [] = ls := rfl
@[simp] theorem wipeL_cons {vs : List Nat} : wipeL ls (i :: vs) = (wipeL ls vs).set i .emp := rfl
@[simp] theorem empAt_nil : empAt ls [] = true := rfl
@[simp] theorem empAt_cons {vs : List Nat} : empAt ls (i :: vs) = ((match ls[i]? with
  | some .emp => true
  | none => true
  | _ => false) && empAt ls vs) := rfl
@[simp] theorem raise0_ap {c : Str} : raise0 c ls = .err ⟨c, []⟩ ls := rfl
@[simp] theorem raise1_ap {c f : Str} {am : AM} : raise1 c f am ls = match am ls with
  | .ok as ls => (match as with
    | [.dat d] => .err ⟨c, [(f, d)]⟩ ls
    | _ => .stk)
  | .err x ls => .err x ls
  | .stk => .stk := rfl
@[simp] theorem tryM_ap {b : SM} {cl : List Cl} : tryM b cl ls = match b ls with
  | .err x ls => catchL cl x ls
  | r => r := rfl
@[simp] theorem xfM_ap {nm f : Str} : xfM i nm f x ls = match ls[i]? with
  | some (.ali 0) => if x.name = nm then (match x.fs.lookup f with
    | some d => .ok (.dat d) ls
    | none => .stk) else .stk
  | _ => .stk := rfl
@[simp] theorem forM_ap {src : IM} {tg : TgM} {body : SM} : forM src tg body ls = (src ls).bind fun items g ls => forL g tg body items ls := rfl
@[simp] theorem forL_nil {tg : TgM} {body : SM} : forL none tg body [] ls = .nx ls := rfl
@[simp] theorem live_dat : live (.dat d) ls = none := rfl
@[simp] theorem live_own : live (.own d) ls = none := rfl
@[simp] theorem live_ali : live (.ali j) ls = match ls[j]? with
    | some (.par (.lst ds)) => some (j, ds)
    | _ => none := rfl
@[simp] theorem seqI_ap {m : M} : seqI m ls = match m ls with
  | .ok k ls => (match live k ls with
    | some (j, ds) => .ok ds (some (j, .lst ds)) ls
    | none => (match freezeK k ls with
      | some (d, ls) => (match itemsD d with
        | some ds => .ok ds none ls
        | none => .stk)
      | none => .stk))
  | .err x ls => .err x ls
  | .stk => .stk := rfl
@[simp] theorem itemsD_l {ds : List D} : itemsD (.lst ds) = some ds := rfl
@[simp] theorem itemsD_t {ds : List D} : itemsD (.tup ds) = some ds := rfl
@[simp] theorem enumM_ap {am : AM} : enumM am ls = match am ls with
  | .ok as ls => (match as with
    | [k] => (match live k ls with
      | some (j, ds) => .ok (enumD ds) (some (j, .lst ds)) ls
      | none => (match freezeK k ls with
        | some (.lst ds, ls) => .ok (enumD ds) none ls
        | _ => .stk))
    | _ => .stk)
  | .err x ls => .err x ls
  | .stk => .stk := rfl
@[simp] theorem rng1_ap {am : AM} : rng1 am ls = match am ls with
  | .ok as ls => (match as with
    | [.dat (.int j)] => if inR j then .ok (rangeD 0 j.toNat) none ls else .stk
    | _ => .stk)
  | .err x ls => .err x ls
  | .stk => .stk := rfl
@[simp] theorem rng2_ap {am : AM} : rng2 am ls = match am ls with
  | .ok as ls => (match as with
    | [.dat (.int i), .dat (.int j)] => if inR i && inR j then .ok (rangeD i (j - i).toNat) none ls else .stk
    | _ => .stk)
  | .err x ls => .err x ls
  | .stk => .stk := rfl
theorem inR_of {j : Int} (h1 : -1000000 ≤ j) (h2 : j ≤ 1000000) : inR j = true := by
  unfold inR; exact decide_eq_true (by omega)
@[simp] theorem lcM_ap {own : List Nat} {src : IM} {tg : TgM} {t e : M} : lcM own src tg t e ls = match src ls with
  | .ok items g ls => if empAt ls own then lcL own g tg t e items ls [] else .stk
  | .err x ls => .err x ls
  | .stk => .stk := rfl
@[simp] theorem lcL_nil {own : List Nat} {tg : TgM} {t e : M} {acc : List D} : lcL own none tg t e [] ls acc = .ok (.own (.lst acc)) ls := rfl
@[simp] theorem dcM_ap {own : List Nat} {src : IM} {tg : TgM} {t mk mv : M} {d0 : D} : dcM own src tg t mk mv d0 ls = match src ls with
  | .ok items g ls => if empAt ls own then dcL own g tg t mk mv items ls d0 else .stk
  | .err x ls => .err x ls
  | .stk => .stk := rfl
@[simp] theorem methL_ap {m : Str} {xs : List Str} {n : Nat} {f : List Slot → RF} {o : M} {am : AM} : methL m xs n f o am ls = (o ls).bind fun k ls => match look ls k with
  | some (.ins y gs) => if y ∈ xs ∧ gs.lookup m = none then (am ls).bind fun as ls => (if as.length = n then callK f (k :: as) ls else .stk) else .stk
  | _ => .stk := rfl
@[simp] theorem propL_ap {xs : List Str} {f : List Slot → RF} {o : M} : propL xs f o ls = (o ls).bind fun k ls => match look ls k with
  | some (.ins y _) => if y ∈ xs then (match callK f [k] ls with
    | .ok k ls => .ok k ls
    | _ => .stk) else .stk
  | _ => .stk := rfl
@[simp] theorem makeN_ap {c : Str} {n : Nat} {f : List Slot → RF} {am : AM} : makeN c n f am ls = (am ls).bind fun as ls => if as.length = n then makeK c f as ls else .stk := rfl
@[simp] theorem makeK_ap {c : Str} {f : List Slot → RF} {as : List Slot} : makeK c f as ls = if (alis as).Nodup then (match hands ls as with
  | some ps => (match f (.par (.ins c []) :: ps) with
    | .ok (.dat .non) (.par d :: ps') => (match backs as ps' ls with
      | some ls' => .ok (.own d) ls'
      | none => .stk)
    | .ok (.dat .non) (.dat d :: ps') => (match backs as ps' ls with
      | some ls' => .ok (.dat d) ls'
      | none => .stk)
    | .err x (.par _ :: ps') => (match backs as ps' ls with
      | some ls' => .err x ls'
      | none => .stk)
    | .err x (.dat _ :: ps') => (match backs as ps' ls with
      | some ls' => .err x ls'
      | none => .stk)
    | _ => .stk)
  | none => .stk) else .stk := rfl
@[simp] theorem inO_ap {xs : List Str} {f : List Slot → RF} {g : Bool → Bool} {a b : M} : inO xs f g a b ls = (a ls).bind fun k1 ls => (b ls).bind fun k2 ls => match look ls k2 with
  | some (.ins y _) => if y ∈ xs then (match callK f [k2, k1] ls with
    | .ok (.dat (.bl t)) ls => .ok (.dat (.bl (g t))) ls
    | _ => .stk) else .stk
  | _ => .stk := rfl
@[simp] theorem eqO_ap {xs : List Str} {f : List Slot → RF} {g : Bool → Bool} {ok : D → Bool} {a b : M} : eqO xs f g ok a b ls = (a ls).bind fun k1 ls => (b ls).bind fun k2 ls => match look ls k1, look ls k2 with
  | some (.ins y _), some d => if y ∈ xs ∧ ok d = true then (match callK f [k1, k2] ls with
    | .ok (.dat (.bl t)) ls => .ok (.dat (.bl (g t))) ls
    | _ => .stk) else .stk
  | _, _ => .stk := rfl
@[simp] theorem lenO_ap {xs : List Str} {f : List Slot → RF} {a : AM} : lenO xs f a ls = (a ls).bind fun ks ls => match ks with
  | [k] => (match look ls k with
    | some (.ins y _) => if y ∈ xs then (match callK f [k] ls with
      | .ok (.dat (.int n)) ls => if 0 ≤ n ∧ n < 2 ^ 63 then .ok (.dat (.int n)) ls else .stk
      | _ => .stk) else .stk
    | _ => .stk)
  | _ => .stk := rfl
end
@[simp] theorem str_inj {a b : String} : (Str.ofString a = Str.ofString b) ↔ a = b := by
  constructor
  · intro h
    rw [Str.ofString_eq_toList, Str.ofString_eq_toList] at h
    injection h with h
    have h2 : a.toList.map Char.toNat = b.toList.map Char.toNat := by simpa using h
    have inj : ∀ {x y : List Char}, x.map Char.toNat = y.map Char.toNat → x = y := fun {x} => by
      induction x with
      | nil => intro y h; cases y <;> simp_all
      | cons c x ih =>
        intro y h
        cases y with
        | nil => simp at h
        | cons d y =>
          simp at h
          rw [ih (by simpa using h.2)]
          congr 1
          exact Char.ext (UInt32.toNat_inj.mp h.1)
    exact String.toList_inj.mp (inj h2)
  · intro h; rw [h]
@[simp] theorem str_beq {a b : String} : (Str.ofString a == Str.ofString b) = decide (a = b) := by
  by_cases h : a = b
  · subst h; simp
  · simp [h]
abbrev JJ := Int × Int
def pyJ (p : JJ) : PyData := .tuple [.int p.1, .int p.2]
def JL (js : List JJ) : D := .lst (js.map tupP)
theorem toPy_J (p : JJ) : toPy (tupP p) = some (pyJ p) := by simp [tupP, toPy, toPys, pyJ]
theorem toPys_J : ∀ (js : List JJ), toPys (js.map tupP) = some (js.map pyJ)
  | [] => by simp [toPys]
  | p :: js => by simp [toPys, toPy_J, toPys_J js]
theorem eqv_J (p q : JJ) : PyData.eqv (pyJ p) (pyJ q) = decide (p = q) := by
  obtain ⟨a, b⟩ := p; obtain ⟨c, d⟩ := q
  simp [pyJ, PyData.eqv, PyData.eqvAll, Prod.ext_iff, Bool.decide_and, Bool.beq_eq_decide_eq, decide_eq_decide]
theorem eqvs_J : ∀ (a b : List JJ), PyData.eqvAll (a.map pyJ) (b.map pyJ) = decide (a = b)
  | [], [] => by simp [PyData.eqvAll]
  | [], _ :: _ => by simp [PyData.eqvAll]
  | _ :: _, [] => by simp [PyData.eqvAll]
  | p :: a, q :: b => by simp [PyData.eqvAll, eqv_J, eqvs_J a b, Bool.decide_and]
theorem lay_J (p : JJ) : (pyJ p).canLay0 = true := by simp [pyJ, PyData.canLay0, PyData.canLayAll0]
theorem lays_J : ∀ (js : List JJ), PyData.canLayAll0 (js.map pyJ) = true
  | [] => by simp [PyData.canLayAll0]
  | p :: js => by simp [PyData.canLayAll0, lay_J, lays_J js]
theorem dep_J (p : JJ) : (pyJ p).depth = 1 := by simp [pyJ, PyData.depth, PyData.depthAll]
theorem deps_J : ∀ (js : List JJ), PyData.depthAll (js.map pyJ) ≤ 1
  | [] => by simp [PyData.depthAll]
  | p :: js => by
    have := deps_J js
    simp [PyData.depthAll, dep_J]
    omega
theorem sh_J (p : JJ) : SeqAt.shaped (pyJ p) = true := by simp [SeqAt.shaped, lay_J, dep_J]
theorem shs_J (js : List JJ) : SeqAt.shaped (.list (js.map pyJ)) = true := by
  have := deps_J js
  simp [SeqAt.shaped, PyData.canLay0, lays_J, PyData.depth]
  omega
@[simp] theorem eqP_J (p q : JJ) : eqP (tupP p) (tupP q) = some (decide (p = q)) := by simp [eqP, toPy_J, sh_J, eqv_J]
@[simp] theorem eqP_JL (a b : List JJ) : eqP (JL a) (JL b) = some (decide (a = b)) := by
  simp [eqP, JL, toPy, toPys_J, shs_J, PyData.eqv, eqvs_J]
@[simp] theorem eqP_i (a b : Int) : eqP (.int a) (.int b) = some (decide (a = b)) := by
  simp [eqP, toPy, SeqAt.shaped, PyData.canLay0, PyData.depth, PyData.eqv, Bool.beq_eq_decide_eq]
@[simp] theorem eqP_b (a b : Bool) : eqP (.bl a) (.bl b) = some (a == b) := by
  simp [eqP, toPy, SeqAt.shaped, PyData.canLay0, PyData.depth, PyData.eqv]
@[simp] theorem eqD_ap (x y : D) : eqD x y = (eqP x y).map fun b => .dat (.bl b) := rfl
@[simp] theorem neD_ap (x y : D) : neD x y = (eqP x y).map fun b => .dat (.bl (!b)) := rfl
@[simp] theorem inD_ap (x y : D) : inD x y = (inP x y).map fun b => .dat (.bl b) := rfl
@[simp] theorem ninD_ap (x y : D) : ninD x y = (inP x y).map fun b => .dat (.bl (!b)) := rfl
theorem any_J (p : JJ) : ∀ (js : List JJ), ((js.map pyJ).any fun z => PyData.eqv z (pyJ p)) = decide (p ∈ js)
  | [] => by simp
  | q :: js => by
    rw [List.map_cons, List.any_cons, any_J p js, eqv_J]
    by_cases h : p = q
    · subst h; simp
    · simp [h, Ne.symm h]
@[simp] theorem inP_JL (p : JJ) (js : List JJ) : inP (tupP p) (JL js) = some (decide (p ∈ js)) := by
  simp only [inP, JL, toPy_J, toPys_J, sh_J, shs_J, and_self, if_true, any_J]
@[simp] theorem ixD_l {ds : List D} {i : Int} : ixD (.lst ds) (.int i) = (atI ds i).map .dat := rfl
@[simp] theorem ixD_t {ds : List D} {i : Int} : ixD (.tup ds) (.int i) = (atI ds i).map .dat := rfl
@[simp] theorem ixD_s {ns : List Int} {i : Int} : ixD (.scr ns) (.int i) = (atI ns i).map fun n => .dat (.int n) := rfl
@[simp] theorem setD_l {xs : List D} {i : Int} {v : D} : setD (.lst xs) (.int i) v = (ixN xs.length i).map fun j => .lst (xs.set j v) := rfl
@[simp] theorem atI_0 {α : Type} {x : α} {xs : List α} : atI (x :: xs) 0 = some x := atI_nat (j := 0) rfl
@[simp] theorem atI_1 {α : Type} {x y : α} {xs : List α} : atI (x :: y :: xs) 1 = some y := atI_nat (j := 1) rfl
@[simp] theorem ixN_0 {n : Nat} : ixN (n + 1) 0 = some 0 := by simp [ixN]
@[simp] theorem ixN_1 {n : Nat} : ixN (n + 1 + 1) 1 = some 1 := by
  simp [ixN]; omega
@[simp] theorem ixD_J0 (p : JJ) : ixD (tupP p) (.int 0) = some (.dat (.int p.1)) := by simp [tupP]
@[simp] theorem ixD_J1 (p : JJ) : ixD (tupP p) (.int 1) = some (.dat (.int p.2)) := by simp [tupP]
@[simp] theorem itemsD_JL {js : List JJ} : itemsD (JL js) = some (js.map tupP) := rfl
@[simp] theorem addD_JL {a b : List JJ} : addD (JL a) (JL b) = if a.length + b.length ≤ 1000000 then some (.own (JL (a ++ b))) else none := by simp [JL]
@[simp] theorem lenD_JL {a : List JJ} : lenD [JL a] = some (.dat (.int a.length)) := by simp [JL]
@[simp] theorem listD_JL {a : List JJ} : listD [JL a] = some (.own (JL a)) := by simp [JL]
@[simp] theorem isLst_JL {a : List JJ} : isLst (JL a) = true := rfl
@[simp] theorem appG_JL {a : List JJ} {p : JJ} : appG (JL a) [tupP p] = if a.length < 1000000 then some (JL (a ++ [p]), .non) else none := by simp [JL]
end VM
set_option maxHeartbeats 1000000
namespace VM
open PySem PySem.Spec L2
def goodCp (c : Nat) : Bool := decide (c ≠ 39) && (Builtin.Str.reprChar 39 c == [c])
def goodS (s : Str) : Bool := s.cps.toList.all goodCp
mutual
def pgd : PyData → Bool
  | .none => true
  | .bool _ => true
  | .int _ => true
  | .str s => goodS s
  | .list xs => pgds xs
  | .tuple xs => pgds xs
  | .dict _ => false
def pgds : List PyData → Bool
  | [] => true
  | x :: xs => pgd x && pgds xs
end
def cl (s : Str) : List Nat := s.cps.toList
theorem cl_app (a b : Str) : cl (a ++ b) = cl a ++ cl b := by simp [cl, Str.cps_append]
theorem cl_inj {a b : Str} (h : cl a = cl b) : a = b := by
  cases a; cases b
  simp [cl] at h
  rw [h]
theorem cl_of (s : String) : cl (Str.ofString s) = s.toList.map Char.toNat := by
  rw [Str.ofString_eq_toList]; simp [cl]
theorem fold_good : ∀ (l : List Nat) (acc : Array Nat), l.all goodCp = true → l.foldl (fun out c => out ++ (Builtin.Str.reprChar 39 c).toArray) acc = acc ++ l.toArray
  | [], acc, _ => by simp
  | c :: l, acc, h => by
    simp [goodCp] at h
    rw [List.foldl_cons, fold_good l _ (by simpa [goodCp] using h.2), h.1.2]
    simp
theorem cl_repr {s : Str} (h : goodS s = true) : cl (reprText s) = 39 :: (cl s ++ [39]) := by
  have h' : s.cps.toList.all goodCp = true := h
  have hq : reprQuote s = 39 := by
    have : s.cps.contains 39 = false := by
      rw [← Array.contains_toList]
      apply Bool.eq_false_iff.mpr
      intro z
      have := List.all_eq_true.mp h' 39 (List.contains_iff_mem.mp z)
      simp [goodCp] at this
    unfold reprQuote; rw [this]; rfl
  simp only [reprText, hq, cl]
  rw [← Array.foldl_toList, fold_good _ _ h']
  simp
def dg (n : Nat) : List Nat := (Nat.toDigits 10 n).map Char.toNat
theorem dg_mem {n c : Nat} (h : c ∈ dg n) : 48 ≤ c ∧ c ≤ 57 := by
  obtain ⟨x, hx, rfl⟩ := List.mem_map.mp h
  have := Nat.isDigit_of_mem_toDigits (by decide) (by decide) hx
  simp [Char.isDigit] at this
  have a := UInt32.le_iff_toNat_le.mp this.1
  have b := UInt32.le_iff_toNat_le.mp this.2
  exact ⟨a, b⟩
theorem dg_ne (n : Nat) : dg n ≠ [] := by simp [dg, Nat.toDigits_ne_nil]
theorem dg_inj {a b : Nat} (h : dg a = dg b) : a = b := by
  have : Nat.toDigits 10 a = Nat.toDigits 10 b := by
    refine (List.map_inj_right fun x y z => ?_).mp h
    exact Char.ext (UInt32.toNat_inj.mp z)
  rw [← Nat.ofDigitChars_ten_toDigits (n := a), this, Nat.ofDigitChars_ten_toDigits]
theorem cl_int (i : Int) : cl (Str.ofString (toString i)) = if i < 0 then 45 :: dg i.natAbs else dg i.natAbs := by
  rw [cl_of, Int.toString_eq_repr, Int.repr_eq_if]
  by_cases h : 0 ≤ i
  · obtain ⟨n, rfl⟩ := Int.eq_ofNat_of_zero_le h
    simp [dg, show ¬ ((n : Int) < 0) by omega]
  · have e : (-i).toNat = i.natAbs := by omega
    simp [h, show i < 0 by omega, dg, e]
theorem run_of {p : Nat → Bool} : ∀ {a b r s : List Nat}, (∀ c ∈ a, p c = true) → (∀ c ∈ b, p c = true) → (∀ c, r.head? = some c → p c = false) → (∀ c, s.head? = some c → p c = false) → a ++ r = b ++ s → a = b ∧ r = s
  | [], [], r, s, _, _, _, _, h => ⟨rfl, h⟩
  | [], y :: b, r, s, _, h2, h3, _, h => by
    simp at h; subst h
    have := h3 y rfl
    rw [h2 y List.mem_cons_self] at this; cases this
  | x :: a, [], r, s, h1, _, _, h4, h => by
    simp at h; subst h
    have := h4 x rfl
    rw [h1 x List.mem_cons_self] at this; cases this
  | x :: a, y :: b, r, s, h1, h2, h3, h4, h => by
    simp at h
    obtain ⟨e1, e2⟩ := run_of (fun c hc => h1 c (List.mem_cons_of_mem _ hc)) (fun c hc => h2 c (List.mem_cons_of_mem _ hc)) h3 h4 h.2
    exact ⟨by rw [h.1, e1], e2⟩
def tmL (r : List Nat) : Prop := ∀ c, r.head? = some c → c = 44 ∨ c = 93 ∨ c = 41
def sl (a : PyData) : List Nat := cl a.shown
def jl (xs : List PyData) : List Nat := cl (Str.join ", " (PyData.shownAll xs))
theorem sl_none : sl .none = [78, 111, 110, 101] := by simp only [sl, PyData.shown_none]; decide +kernel
theorem sl_bool (b : Bool) : sl (.bool b) = if b then [84, 114, 117, 101] else [70, 97, 108, 115, 101] := by
  cases b <;> simp only [sl, PyData.shown_bool] <;> decide +kernel
theorem sl_int (i : Int) : sl (.int i) = if i < 0 then 45 :: dg i.natAbs else dg i.natAbs := by simp only [sl, PyData.shown_int]; exact cl_int i
theorem sl_str {s : Str} (h : goodS s = true) : sl (.str s) = 39 :: (cl s ++ [39]) := by simp only [sl, PyData.shown_str]; exact cl_repr h
theorem sl_list (xs : List PyData) : sl (.list xs) = 91 :: (jl xs ++ [93]) := by
  simp only [sl, jl, PyData.shown_list, cl_app]
  rw [show cl ("[" : String) = [91] by decide +kernel, show cl ("]" : String) = [93] by decide +kernel]
  simp
theorem sl_tuple (xs : List PyData) : sl (.tuple xs) = 40 :: (jl xs ++ (if xs.length = 1 then [44, 41] else [41])) := by
  simp only [sl, jl, PyData.shown_tuple, cl_app]
  rw [show cl ("(" : String) = [40] by decide +kernel]
  by_cases h : xs.length = 1
  · simp [h, show cl (",)" : String) = [44, 41] by decide +kernel]
  · simp [h, show cl (")" : String) = [41] by decide +kernel]
theorem jl_nil : jl [] = [] := by simp only [jl, PyData.shownAll_nil]; rfl
theorem jl_one (x : PyData) : jl [x] = sl x := by simp only [jl, PyData.shownAll_cons, PyData.shownAll_nil]; rfl
theorem jl_cons (x y : PyData) (xs : List PyData) : jl (x :: y :: xs) = sl x ++ 44 :: 32 :: jl (y :: xs) := by
  simp only [jl, PyData.shownAll_cons]
  show cl (PyData.shown x ++ ((", " : String) : Str) ++ Str.join ", " (PyData.shown y :: PyData.shownAll xs)) = _
  rw [cl_app, cl_app, show cl (", " : String) = [44, 32] by decide +kernel]
  simp [sl]
def fst : PyData → Nat → Prop
  | .none, c => c = 78
  | .bool b, c => c = if b then 84 else 70
  | .int i, c => if i < 0 then c = 45 else 48 ≤ c ∧ c ≤ 57
  | .str _, c => c = 39
  | .list _, c => c = 91
  | .tuple _, c => c = 40
  | .dict _, _ => False
theorem sl_fst : ∀ {a : PyData}, pgd a = true → ∃ c r, sl a = c :: r ∧ fst a c
  | .none, _ => ⟨_, _, sl_none, rfl⟩
  | .bool b, _ => by cases b <;> exact ⟨_, _, sl_bool _, rfl⟩
  | .int i, _ => by
    by_cases h : i < 0
    · exact ⟨45, dg i.natAbs, by rw [sl_int, if_pos h], by simp [fst, h]⟩
    · obtain ⟨c, r, e⟩ := List.exists_cons_of_ne_nil (dg_ne i.natAbs)
      exact ⟨c, r, by rw [sl_int, if_neg h, e], by simp only [fst, if_neg h]; exact dg_mem (n := i.natAbs) (by rw [e]; exact List.mem_cons_self)⟩
  | .str s, h => ⟨_, _, sl_str (by simpa [pgd] using h), rfl⟩
  | .list xs, _ => ⟨_, _, sl_list xs, rfl⟩
  | .tuple xs, _ => ⟨_, _, sl_tuple xs, rfl⟩
  | .dict _, h => by simp [pgd] at h
def clL (r : List Nat) : Prop := (∃ r', r = 93 :: r') ∨ (∃ r', r = 41 :: r') ∨ (∃ r', r = 44 :: 41 :: r')
theorem clL_tm {r : List Nat} (h : clL r) : tmL r := by
  intro c hc
  rcases h with ⟨r', rfl⟩ | ⟨r', rfl⟩ | ⟨r', rfl⟩ <;> simp at hc <;> simp [← hc]
theorem fst_no {a : PyData} {c : Nat} (h : fst a c) : c ≠ 44 ∧ c ≠ 93 ∧ c ≠ 41 := by
  cases a <;> simp only [fst] at h <;> (try split at h) <;> (first | exact h.elim | omega)
mutual
theorem sl_inj : ∀ (a b : PyData) {r s : List Nat}, pgd a = true → pgd b = true → tmL r → tmL s → sl a ++ r = sl b ++ s → a = b ∧ r = s
  | a, b, r, s, ha, hb, hr, hs, h => by
    obtain ⟨c, r1, e1, f1⟩ := sl_fst ha
    obtain ⟨d, r2, e2, f2⟩ := sl_fst hb
    have hcd : c = d := by rw [e1, e2] at h; simpa using (List.cons.inj h).1
    subst hcd
    match a, b, ha, hb, f1, f2, h with
    | .none, .none, _, _, _, _, h => exact ⟨rfl, List.append_cancel_left h⟩
    | .bool x, .bool y, _, _, f1, f2, h =>
      have : x = y := by cases x <;> cases y <;> simp [fst] at f1 f2 <;> first | rfl | omega
      subst this
      exact ⟨rfl, List.append_cancel_left h⟩
    | .int i, .int j, _, _, f1, f2, h =>
      have dig : ∀ n, ∀ c ∈ dg n, (decide (48 ≤ c ∧ c ≤ 57)) = true := fun n c hc => decide_eq_true (dg_mem hc)
      have ter : ∀ {r : List Nat}, tmL r → ∀ c, r.head? = some c → (decide (48 ≤ c ∧ c ≤ 57)) = false := fun hr c hc => by
        rcases hr c hc with rfl | rfl | rfl <;> decide
      rw [sl_int, sl_int] at h
      by_cases hi : i < 0
      · by_cases hj : j < 0
        · rw [if_pos hi, if_pos hj] at h
          simp only [List.cons_append, List.cons.injEq, true_and] at h
          obtain ⟨z1, z2⟩ := run_of (dig _) (dig _) (ter hr) (ter hs) h
          have := dg_inj z1
          exact ⟨by congr 1; omega, z2⟩
        · simp [fst, hi, hj] at f1 f2; omega
      · by_cases hj : j < 0
        · simp [fst, hi, hj] at f1 f2; omega
        · rw [if_neg hi, if_neg hj] at h
          obtain ⟨z1, z2⟩ := run_of (dig _) (dig _) (ter hr) (ter hs) h
          have := dg_inj z1
          exact ⟨by congr 1; omega, z2⟩
    | .str x, .str y, ha, hb, _, _, h =>
      have ga : goodS x = true := by simpa [pgd] using ha
      have gb : goodS y = true := by simpa [pgd] using hb
      rw [sl_str ga, sl_str gb] at h
      simp only [List.cons_append, List.cons.injEq, true_and, List.append_assoc, List.nil_append] at h
      have q : ∀ {x : Str}, goodS x = true → ∀ c ∈ cl x, (decide (c ≠ 39)) = true := fun {x} g c hc => by
        have := List.all_eq_true.mp (show x.cps.toList.all goodCp = true from g) c hc
        simp [goodCp] at this
        simp [this.1]
      obtain ⟨z1, z2⟩ := run_of (p := fun c => decide (c ≠ 39)) (q ga) (q gb) (fun c hc => by simp at hc; simp [← hc]) (fun c hc => by simp at hc; simp [← hc]) h
      exact ⟨by rw [cl_inj z1], (List.cons.inj z2).2⟩
    | .list xs, .list ys, ha, hb, _, _, h =>
      rw [sl_list, sl_list] at h
      simp only [List.cons_append, List.cons.injEq, true_and, List.append_assoc, List.nil_append] at h
      obtain ⟨z1, z2⟩ := jl_inj xs ys (by simpa [pgd] using ha) (by simpa [pgd] using hb) (.inl ⟨_, rfl⟩) (.inl ⟨_, rfl⟩) h
      exact ⟨by rw [z1], (List.cons.inj z2).2⟩
    | .tuple xs, .tuple ys, ha, hb, _, _, h =>
      rw [sl_tuple, sl_tuple] at h
      simp only [List.cons_append, List.cons.injEq, true_and, List.append_assoc] at h
      have cz : ∀ (xs : List PyData) (r : List Nat), clL ((if xs.length = 1 then [44, 41] else [41]) ++ r) := fun xs r => by
        split
        · exact .inr (.inr ⟨_, rfl⟩)
        · exact .inr (.inl ⟨_, rfl⟩)
      obtain ⟨z1, z2⟩ := jl_inj xs ys (by simpa [pgd] using ha) (by simpa [pgd] using hb) (cz _ _) (cz _ _) h
      subst z1
      exact ⟨rfl, List.append_cancel_left z2⟩
    | .none, .bool y, _, _, f1, f2, _ | .none, .int y, _, _, f1, f2, _ | .none, .str y, _, _, f1, f2, _ | .none, .list y, _, _, f1, f2, _ | .none, .tuple y, _, _, f1, f2, _
    | .bool y, .none, _, _, f1, f2, _ | .bool _, .int y, _, _, f1, f2, _ | .bool _, .str y, _, _, f1, f2, _ | .bool _, .list y, _, _, f1, f2, _ | .bool _, .tuple y, _, _, f1, f2, _
    | .int y, .none, _, _, f1, f2, _ | .int _, .bool y, _, _, f1, f2, _ | .int _, .str y, _, _, f1, f2, _ | .int _, .list y, _, _, f1, f2, _ | .int _, .tuple y, _, _, f1, f2, _
    | .str y, .none, _, _, f1, f2, _ | .str _, .bool y, _, _, f1, f2, _ | .str _, .int y, _, _, f1, f2, _ | .str _, .list y, _, _, f1, f2, _ | .str _, .tuple y, _, _, f1, f2, _
    | .list y, .none, _, _, f1, f2, _ | .list _, .bool y, _, _, f1, f2, _ | .list _, .int y, _, _, f1, f2, _ | .list _, .str y, _, _, f1, f2, _ | .list _, .tuple y, _, _, f1, f2, _
    | .tuple y, .none, _, _, f1, f2, _ | .tuple _, .bool y, _, _, f1, f2, _ | .tuple _, .int y, _, _, f1, f2, _ | .tuple _, .str y, _, _, f1, f2, _ | .tuple _, .list y, _, _, f1, f2, _ =>
      exfalso
      simp only [fst] at f1 f2
      (repeat (split at f1)) <;> (repeat (split at f2)) <;> omega
    | .dict _, _, ha, _, _, _, _ => simp [pgd] at ha
    | _, .dict _, _, hb, _, _, _ => simp [pgd] at hb
theorem jl_inj : ∀ (xs ys : List PyData) {r s : List Nat}, pgds xs = true → pgds ys = true → clL r → clL s → jl xs ++ r = jl ys ++ s → xs = ys ∧ r = s
  | [], [], r, s, _, _, _, _, h => ⟨rfl, by simpa [jl_nil] using h⟩
  | [], y :: ys, r, s, _, hb, hr, _, h => by
    exfalso
    simp [pgds] at hb
    obtain ⟨c, r1, e1, f1⟩ := sl_fst hb.1
    obtain ⟨n1, n2, n3⟩ := fst_no f1
    have : ∃ r2, r = c :: r2 := by
      cases ys with
      | nil => rw [jl_nil, jl_one, e1] at h; exact ⟨_, by simpa using h⟩
      | cons z zs => rw [jl_nil, jl_cons, e1] at h; exact ⟨_, by simpa using h⟩
    obtain ⟨r2, rfl⟩ := this
    rcases hr with ⟨r', z⟩ | ⟨r', z⟩ | ⟨r', z⟩ <;> injection z with z _ <;> omega
  | x :: xs, [], r, s, ha, _, _, hs, h => by
    exfalso
    simp [pgds] at ha
    obtain ⟨c, r1, e1, f1⟩ := sl_fst ha.1
    obtain ⟨n1, n2, n3⟩ := fst_no f1
    have : ∃ r2, s = c :: r2 := by
      cases xs with
      | nil => rw [jl_nil, jl_one, e1] at h; exact ⟨_, by simpa using h.symm⟩
      | cons z zs => rw [jl_nil, jl_cons, e1] at h; exact ⟨_, by simpa using h.symm⟩
    obtain ⟨r2, rfl⟩ := this
    rcases hs with ⟨r', z⟩ | ⟨r', z⟩ | ⟨r', z⟩ <;> injection z with z _ <;> omega
  | [x], [y], r, s, ha, hb, hr, hs, h => by
    simp [pgds] at ha hb
    rw [jl_one, jl_one] at h
    obtain ⟨z1, z2⟩ := sl_inj x y ha hb (clL_tm hr) (clL_tm hs) h
    exact ⟨by rw [z1], z2⟩
  | [x], y :: z :: ys, r, s, ha, hb, hr, hs, h => by
    exfalso
    simp [pgds] at ha hb
    rw [jl_one, jl_cons, List.append_assoc] at h
    obtain ⟨_, z2⟩ := sl_inj x y ha hb.1 (clL_tm hr) (fun c hc => by simp at hc; simp [← hc]) h
    rw [z2] at hr
    rcases hr with ⟨r', w⟩ | ⟨r', w⟩ | ⟨r', w⟩ <;> simp at w
  | x :: z :: xs, [y], r, s, ha, hb, hr, hs, h => by
    exfalso
    simp [pgds] at ha hb
    rw [jl_one, jl_cons, List.append_assoc] at h
    obtain ⟨_, z2⟩ := sl_inj x y ha.1 hb (fun c hc => by simp at hc; simp [← hc]) (clL_tm hs) h
    rw [← z2] at hs
    rcases hs with ⟨r', w⟩ | ⟨r', w⟩ | ⟨r', w⟩ <;> simp at w
  | x :: x' :: xs, y :: y' :: ys, r, s, ha, hb, hr, hs, h => by
    rw [pgds, Bool.and_eq_true] at ha hb
    rw [jl_cons, jl_cons, List.append_assoc, List.append_assoc] at h
    obtain ⟨z1, z2⟩ := sl_inj x y ha.1 hb.1 (fun c hc => by simp at hc; simp [← hc]) (fun c hc => by simp at hc; simp [← hc]) h
    simp only [List.cons_append, List.cons.injEq, true_and] at z2
    obtain ⟨z3, z4⟩ := jl_inj (x' :: xs) (y' :: ys) ha.2 hb.2 hr hs z2
    exact ⟨by rw [z1, z3], z4⟩
end
mutual
def py : D → PyData
  | .non => .none
  | .bl b => .bool b
  | .int i => .int i
  | .str s => .str s
  | .lst ds => .list (pys ds)
  | .tup ds => .tuple (pys ds)
  | _ => .none
def pys : List D → List PyData
  | [] => []
  | d :: ds => py d :: pys ds
end
mutual
def D.gd : D → Bool
  | .non => true
  | .bl _ => true
  | .int i => decide (i.natAbs < 2 ^ 200)
  | .str s => goodS s && PyData.strOk s && decide (s.length ≤ 1000)
  | .lst ds => D.gds ds
  | .tup ds => D.gds ds
  | _ => false
def D.gds : List D → Bool
  | [] => true
  | d :: ds => D.gd d && D.gds ds
end
mutual
def D.dp : D → Nat
  | .lst ds => D.dps ds + 1
  | .tup ds => D.dps ds + 1
  | _ => 0
def D.dps : List D → Nat
  | [] => 0
  | d :: ds => max (D.dp d) (D.dps ds)
end
mutual
def D.wt : D → Nat
  | .non => 4
  | .bl _ => 5
  | .int _ => 64
  | .str s => s.length + 2
  | .lst ds => D.wts ds + 3
  | .tup ds => D.wts ds + 3
  | _ => 0
def D.wts : List D → Nat
  | [] => 0
  | d :: ds => D.wt d + 2 + D.wts ds
end
mutual
theorem toPy_gd : ∀ {d : D}, d.gd = true → toPy d = some (py d)
  | .non, _ => by simp [toPy, py]
  | .bl _, _ => by simp [toPy, py]
  | .int _, _ => by simp [toPy, py]
  | .str _, _ => by simp [toPy, py]
  | .lst ds, h => by simp [toPy, py, toPys_gd (ds := ds) (by simpa [D.gd] using h)]
  | .tup ds, h => by simp [toPy, py, toPys_gd (ds := ds) (by simpa [D.gd] using h)]
  | .dK _, h => by simp [D.gd] at h
  | .dT _, h => by simp [D.gd] at h
  | .ins _ _, h => by simp [D.gd] at h
  | .scr _, h => by simp [D.gd] at h
  | .ktup _, h => by simp [D.gd] at h
  | .exc _ _, h => by simp [D.gd] at h
theorem toPys_gd : ∀ {ds : List D}, D.gds ds = true → toPys ds = some (pys ds)
  | [], _ => by simp [toPys, pys]
  | d :: ds, h => by
    simp [D.gds] at h
    simp [toPys, pys, toPy_gd h.1, toPys_gd h.2]
end
mutual
theorem pgd_py : ∀ {d : D}, d.gd = true → pgd (py d) = true
  | .non, _ => by simp [pgd, py]
  | .bl _, _ => by simp [pgd, py]
  | .int _, _ => by simp [pgd, py]
  | .str _, h => by simp [D.gd] at h; simp [pgd, py, h]
  | .lst ds, h => by simp [pgd, py, pgds_py (ds := ds) (by simpa [D.gd] using h)]
  | .tup ds, h => by simp [pgd, py, pgds_py (ds := ds) (by simpa [D.gd] using h)]
  | .dK _, h => by simp [D.gd] at h
  | .dT _, h => by simp [D.gd] at h
  | .ins _ _, h => by simp [D.gd] at h
  | .scr _, h => by simp [D.gd] at h
  | .ktup _, h => by simp [D.gd] at h
  | .exc _ _, h => by simp [D.gd] at h
theorem pgds_py : ∀ {ds : List D}, D.gds ds = true → pgds (pys ds) = true
  | [], _ => by simp [pgds, pys]
  | d :: ds, h => by
    simp [D.gds] at h
    simp [pgds, pys, pgd_py h.1, pgds_py h.2]
end
mutual
theorem lay_py : ∀ {d : D}, d.gd = true → (py d).canLay0 = true
  | .non, _ => by simp [PyData.canLay0, py]
  | .bl _, _ => by simp [PyData.canLay0, py]
  | .int _, _ => by simp [PyData.canLay0, py]
  | .str _, h => by simp [D.gd] at h; simp [PyData.canLay0, py, h]
  | .lst ds, h => by simp [PyData.canLay0, py, lays_py (ds := ds) (by simpa [D.gd] using h)]
  | .tup ds, h => by simp [PyData.canLay0, py, lays_py (ds := ds) (by simpa [D.gd] using h)]
  | .dK _, h => by simp [D.gd] at h
  | .dT _, h => by simp [D.gd] at h
  | .ins _ _, h => by simp [D.gd] at h
  | .scr _, h => by simp [D.gd] at h
  | .ktup _, h => by simp [D.gd] at h
  | .exc _ _, h => by simp [D.gd] at h
theorem lays_py : ∀ {ds : List D}, D.gds ds = true → PyData.canLayAll0 (pys ds) = true
  | [], _ => by simp [PyData.canLayAll0, pys]
  | d :: ds, h => by
    simp [D.gds] at h
    simp [PyData.canLayAll0, pys, lay_py h.1, lays_py h.2]
end
mutual
theorem dep_py : ∀ {d : D}, d.gd = true → (py d).depth = d.dp
  | .non, _ => by simp [PyData.depth, py, D.dp]
  | .bl _, _ => by simp [PyData.depth, py, D.dp]
  | .int _, _ => by simp [PyData.depth, py, D.dp]
  | .str _, h => by simp [PyData.depth, py, D.dp]
  | .lst ds, h => by simp [PyData.depth, py, D.dp, deps_py (ds := ds) (by simpa [D.gd] using h)]
  | .tup ds, h => by simp [PyData.depth, py, D.dp, deps_py (ds := ds) (by simpa [D.gd] using h)]
  | .dK _, h => by simp [D.gd] at h
  | .dT _, h => by simp [D.gd] at h
  | .ins _ _, h => by simp [D.gd] at h
  | .scr _, h => by simp [D.gd] at h
  | .ktup _, h => by simp [D.gd] at h
  | .exc _ _, h => by simp [D.gd] at h
theorem deps_py : ∀ {ds : List D}, D.gds ds = true → PyData.depthAll (pys ds) = D.dps ds
  | [], _ => by simp [PyData.depthAll, pys, D.dps]
  | d :: ds, h => by
    simp [D.gds] at h
    simp [PyData.depthAll, pys, D.dps, dep_py h.1, deps_py h.2]
end
theorem log_lt {n : Nat} (h : n < 2 ^ 200) : n.log2 < 1920 := by
  by_cases z : n = 0
  · subst z; decide
  · have := (Nat.log2_lt z).mpr h
    omega
mutual
theorem show_py : ∀ {d : D}, d.gd = true → (py d).showable = true ∧ (py d).hasDict = false
  | .non, _ => by simp [PyData.showable, PyData.hasDict, py]
  | .bl _, _ => by simp [PyData.showable, PyData.hasDict, py]
  | .int i, h => by
    simp only [D.gd, decide_eq_true_eq] at h
    simp [PyData.showable, PyData.hasDict, py, log_lt h]
  | .str _, h => by simp [PyData.showable, PyData.hasDict, py]
  | .lst ds, h => by simp [PyData.showable, PyData.hasDict, py, shows_py (ds := ds) (by simpa [D.gd] using h)]
  | .tup ds, h => by simp [PyData.showable, PyData.hasDict, py, shows_py (ds := ds) (by simpa [D.gd] using h)]
  | .dK _, h => by simp [D.gd] at h
  | .dT _, h => by simp [D.gd] at h
  | .ins _ _, h => by simp [D.gd] at h
  | .scr _, h => by simp [D.gd] at h
  | .ktup _, h => by simp [D.gd] at h
  | .exc _ _, h => by simp [D.gd] at h
theorem shows_py : ∀ {ds : List D}, D.gds ds = true → PyData.showableAll (pys ds) = true ∧ PyData.hasDictAll (pys ds) = false
  | [], _ => by simp [PyData.showableAll, PyData.hasDictAll, pys]
  | d :: ds, h => by
    simp [D.gds] at h
    simp [PyData.showableAll, PyData.hasDictAll, pys, show_py h.1, shows_py h.2]
end
theorem len_cl (s : Str) : s.length = (cl s).length := by simp [Str.length, cl]
theorem dg_len {n : Nat} (h : n < 2 ^ 200) : (dg n).length ≤ 61 := by
  rw [dg, List.length_map, Nat.length_toDigits_le_iff (by decide) (by decide)]
  exact Nat.lt_of_lt_of_le h (by decide)
mutual
theorem sl_len : ∀ {d : D}, d.gd = true → (sl (py d)).length ≤ d.wt
  | .non, _ => by simp [py, sl_none, D.wt]
  | .bl b, _ => by cases b <;> simp [py, sl_bool, D.wt]
  | .int i, h => by
    simp only [D.gd, decide_eq_true_eq] at h
    have := dg_len h
    simp only [py, sl_int, D.wt]
    split
    · simp; omega
    · omega
  | .str s, h => by
    simp [D.gd] at h
    simp [py, sl_str h.1.1, D.wt, len_cl]
  | .lst ds, h => by
    have := jl_len (ds := ds) (by simpa [D.gd] using h)
    simp [py, sl_list, D.wt]
    omega
  | .tup ds, h => by
    have := jl_len (ds := ds) (by simpa [D.gd] using h)
    simp only [py, sl_tuple, D.wt, List.length_cons, List.length_append]
    split <;> simp <;> omega
  | .dK _, h => by simp [D.gd] at h
  | .dT _, h => by simp [D.gd] at h
  | .ins _ _, h => by simp [D.gd] at h
  | .scr _, h => by simp [D.gd] at h
  | .ktup _, h => by simp [D.gd] at h
  | .exc _ _, h => by simp [D.gd] at h
theorem jl_len : ∀ {ds : List D}, D.gds ds = true → (jl (pys ds)).length ≤ D.wts ds
  | [], _ => by simp [pys, jl_nil]
  | [d], h => by
    simp [D.gds] at h
    have := sl_len h
    simp [pys, jl_one, D.wts]
    omega
  | d :: e :: ds, h => by
    rw [D.gds, Bool.and_eq_true] at h
    have h1 := sl_len h.1
    have h2 := jl_len (ds := e :: ds) h.2
    rw [pys, pys, jl_cons]
    rw [pys] at h2
    rw [D.wts]
    simp
    omega
end
theorem shown_len {d : D} (h : d.gd = true) : (py d).shown.length ≤ d.wt := by
  rw [len_cl]; exact sl_len h
mutual
theorem py_inj : ∀ {a b : D}, a.gd = true → b.gd = true → py a = py b → a = b
  | a, b, ha, hb, h => by
    cases a <;> cases b <;> first
      | (simp [D.gd] at ha; done)
      | (simp [D.gd] at hb; done)
      | rfl
      | (simp [py] at h; done)
      | (simp only [py, PyData.bool.injEq, PyData.int.injEq, PyData.str.injEq] at h; rw [h])
      | (rename_i xs ys; simp only [py, PyData.list.injEq, PyData.tuple.injEq] at h; rw [pys_inj (a := xs) (b := ys) (by simpa [D.gd] using ha) (by simpa [D.gd] using hb) h])
theorem pys_inj : ∀ {a b : List D}, D.gds a = true → D.gds b = true → pys a = pys b → a = b
  | [], [], _, _, _ => rfl
  | [], _ :: _, _, _, h => by simp [pys] at h
  | _ :: _, [], _, _, h => by simp [pys] at h
  | x :: a, y :: b, ha, hb, h => by
    simp [D.gds] at ha hb
    simp [pys] at h
    rw [py_inj ha.1 hb.1 h.1, pys_inj ha.2 hb.2 h.2]
end
def shD (d : D) : Str := (py d).shown
theorem reprD_gd {d : D} (h : d.gd = true) (hw : d.wt ≤ 1000000) (hd : d.dp ≤ 50) : reprD [d] = some (.dat (.str (shD d))) := by
  have a := show_py h
  have b := shown_len h
  have c := dep_py h
  simp only [reprD, toPy_gd h, Option.bind_some, reprP]
  rw [if_pos ⟨a.1, a.2, by omega, by omega⟩]
  rfl
mutual
def pnb : PyData → Bool
  | .bool _ => false
  | .list xs => pnbs xs
  | .tuple xs => pnbs xs
  | .dict _ => false
  | _ => true
def pnbs : List PyData → Bool
  | [] => true
  | x :: xs => pnb x && pnbs xs
end
mutual
theorem eqv_nb : ∀ (a b : PyData), pnb a = true → pnb b = true → (PyData.eqv a b = true ↔ a = b)
  | a, b, ha, hb => by
    cases a <;> cases b <;> first
      | (simp [pnb] at ha; done)
      | (simp [pnb] at hb; done)
      | (simp [PyData.eqv]; done)
      | (rename_i xs ys; simp only [PyData.eqv, PyData.list.injEq, PyData.tuple.injEq]; exact eqvs_nb xs ys (by simpa [pnb] using ha) (by simpa [pnb] using hb))
theorem eqvs_nb : ∀ (a b : List PyData), pnbs a = true → pnbs b = true → (PyData.eqvAll a b = true ↔ a = b)
  | [], [], _, _ => by simp [PyData.eqvAll]
  | [], _ :: _, _, _ => by simp [PyData.eqvAll]
  | _ :: _, [], _, _ => by simp [PyData.eqvAll]
  | x :: a, y :: b, ha, hb => by
    simp [pnbs] at ha hb
    simp [PyData.eqvAll, eqv_nb x y ha.1 hb.1, eqvs_nb a b ha.2 hb.2]
end
mutual
theorem eqv_self : ∀ (a : PyData), pgd a = true → PyData.eqv a a = true
  | .none, _ => by simp [PyData.eqv]
  | .bool _, _ => by simp [PyData.eqv]
  | .int _, _ => by simp [PyData.eqv]
  | .str _, _ => by simp [PyData.eqv]
  | .list xs, h => by simp only [PyData.eqv]; exact eqvs_self xs (by simpa [pgd] using h)
  | .tuple xs, h => by simp only [PyData.eqv]; exact eqvs_self xs (by simpa [pgd] using h)
  | .dict _, h => by simp [pgd] at h
theorem eqvs_self : ∀ (a : List PyData), pgds a = true → PyData.eqvAll a a = true
  | [], _ => by simp [PyData.eqvAll]
  | x :: xs, h => by
    simp [pgds] at h
    simp [PyData.eqvAll, eqv_self x h.1, eqvs_self xs h.2]
end
def isS (w : Str) : D → Bool
  | .str s => s == w
  | _ => false
inductive Res (α : Type) where
  | ok (a : α) | err (x : Exn) | stk
inductive Ctl (ρ β σ : Type) where
  | nx (s : σ) | ret (r : ρ) | brk (b : β) | cnt (b : β) | err (x : Exn) | stk
section
variable {α ρ β σ τ γ : Type}
def Res.bind (r : Res α) (f : α → Res γ) : Res γ := match r with
  | .ok a => f a
  | .err x => .err x
  | .stk => .stk
def Res.bindN (r : Res α) (f : α → Res γ) : Res γ := match r with
  | .ok a => f a
  | _ => .stk
def Res.bindC (r : Res α) (f : α → Ctl ρ β σ) : Ctl ρ β σ := match r with
  | .ok a => f a
  | .err x => .err x
  | .stk => .stk
def Res.bindD (r : Res α) (f : α → Ctl ρ β σ) : Ctl ρ β σ := match r with
  | .ok a => f a
  | _ => .stk
def gdR (p : Prop) [Decidable p] (r : Res α) : Res α := if p then r else .stk
def gdC (p : Prop) [Decidable p] (r : Ctl ρ β σ) : Ctl ρ β σ := if p then r else .stk
def optR (o : Option α) : Res α := match o with
  | some a => .ok a
  | none => .stk
def Ctl.bind (c : Ctl ρ β σ) (f : σ → Ctl ρ β τ) : Ctl ρ β τ := match c with
  | .nx s => f s
  | .ret r => .ret r
  | .brk b => .brk b
  | .cnt b => .cnt b
  | .err x => .err x
  | .stk => .stk
def Ctl.map (f : σ → τ) (c : Ctl ρ β σ) : Ctl ρ β τ := c.bind fun s => .nx (f s)
def Ctl.res (h : σ → Res ρ) (c : Ctl ρ β σ) : Res ρ := match c with
  | .nx s => h s
  | .ret r => .ok r
  | .err x => .err x
  | _ => .stk
def forT (b : α → σ → Ctl ρ σ σ) : List α → σ → Ctl ρ β σ
  | [], s => .nx s
  | x :: xs, s => match b x s with
    | .nx s => forT b xs s
    | .cnt s => forT b xs s
    | .brk s => .nx s
    | .ret r => .ret r
    | .err x => .err x
    | .stk => .stk
def whileTL (c : σ → Res (Bool × σ)) (b : σ → Ctl ρ σ σ) : Nat → σ → Ctl ρ β σ
  | 0, _ => .stk
  | n + 1, s => match c s with
    | .ok (true, s) => (match b s with
      | .nx s => whileTL c b n s
      | .cnt s => whileTL c b n s
      | .brk s => .nx s
      | .ret r => .ret r
      | .err x => .err x
      | .stk => .stk)
    | .ok (false, s) => .nx s
    | _ => .stk
noncomputable def whileT (c : σ → Res (Bool × σ)) (b : σ → Ctl ρ σ σ) (s : σ) : Ctl ρ β σ := open Classical in if h : ∃ n, whileTL (β := β) c b n s ≠ .stk then whileTL c b (Classical.choose h) s else .stk
def lcT (t : α → σ → Res (Bool × σ)) (e : α → σ → Res (γ × σ)) : List α → σ → Res (List γ × σ)
  | [], s => .ok ([], s)
  | x :: xs, s => match t x s with
    | .ok (true, s) => (match e x s with
      | .ok (y, s) => (match lcT t e xs s with
        | .ok (ys, s) => .ok (y :: ys, s)
        | _ => .stk)
      | _ => .stk)
    | .ok (false, s) => lcT t e xs s
    | _ => .stk
@[simp] theorem Res.bind_ok {a : α} {f : α → Res γ} : (Res.ok a).bind f = f a := rfl
@[simp] theorem Res.bind_err {x} {f : α → Res γ} : (Res.err x).bind f = .err x := rfl
@[simp] theorem Res.bind_stk {f : α → Res γ} : (Res.stk).bind f = .stk := rfl
@[simp] theorem Res.bindN_ok {a : α} {f : α → Res γ} : (Res.ok a).bindN f = f a := rfl
@[simp] theorem Res.bindC_ok {a : α} {f : α → Ctl ρ β σ} : (Res.ok a).bindC f = f a := rfl
@[simp] theorem Res.bindC_err {x} {f : α → Ctl ρ β σ} : (Res.err x).bindC f = .err x := rfl
@[simp] theorem Res.bindC_stk {f : α → Ctl ρ β σ} : (Res.stk).bindC f = .stk := rfl
@[simp] theorem Res.bindD_ok {a : α} {f : α → Ctl ρ β σ} : (Res.ok a).bindD f = f a := rfl
@[simp] theorem optR_some {a : α} : optR (some a) = .ok a := rfl
@[simp] theorem Ctl.bind_nx {s : σ} {f : σ → Ctl ρ β τ} : (Ctl.nx s : Ctl ρ β σ).bind f = f s := rfl
@[simp] theorem Ctl.bind_ret {r : ρ} {f : σ → Ctl ρ β τ} : (Ctl.ret r : Ctl ρ β σ).bind f = .ret r := rfl
@[simp] theorem Ctl.bind_brk {r : β} {f : σ → Ctl ρ β τ} : (Ctl.brk r : Ctl ρ β σ).bind f = .brk r := rfl
@[simp] theorem Ctl.bind_cnt {r : β} {f : σ → Ctl ρ β τ} : (Ctl.cnt r : Ctl ρ β σ).bind f = .cnt r := rfl
@[simp] theorem Ctl.bind_err {x} {f : σ → Ctl ρ β τ} : (Ctl.err x : Ctl ρ β σ).bind f = .err x := rfl
@[simp] theorem Ctl.map_nx {s : σ} {f : σ → τ} : (Ctl.nx s : Ctl ρ β σ).map f = .nx (f s) := rfl
@[simp] theorem Ctl.map_ret {r : ρ} {f : σ → τ} : (Ctl.ret r : Ctl ρ β σ).map f = .ret r := rfl
@[simp] theorem Ctl.map_brk {r : β} {f : σ → τ} : (Ctl.brk r : Ctl ρ β σ).map f = .brk r := rfl
@[simp] theorem Ctl.map_cnt {r : β} {f : σ → τ} : (Ctl.cnt r : Ctl ρ β σ).map f = .cnt r := rfl
@[simp] theorem Ctl.map_err {x} {f : σ → τ} : (Ctl.err x : Ctl ρ β σ).map f = .err x := rfl
@[simp] theorem Ctl.res_nx {s : σ} {h : σ → Res ρ} : (Ctl.nx s : Ctl ρ β σ).res h = h s := rfl
@[simp] theorem Ctl.res_ret {r : ρ} {h : σ → Res ρ} : (Ctl.ret r : Ctl ρ β σ).res h = .ok r := rfl
@[simp] theorem Ctl.res_err {x} {h : σ → Res ρ} : (Ctl.err x : Ctl ρ β σ).res h = .err x := rfl
theorem gdC_pos {p : Prop} [Decidable p] (h : p) {r : Ctl ρ β σ} : gdC p r = r := if_pos h
theorem gdR_pos {p : Prop} [Decidable p] (h : p) {r : Res α} : gdR p r = r := if_pos h
end
def outOk : List Slot → LS → Bool
  | [], _ => true
  | .dat _ :: ps, _ :: ls => outOk ps ls
  | .par _ :: ps, .par _ :: ls => outOk ps ls
  | .par _ :: ps, .pdt _ :: ls => outOk ps ls
  | _, _ => false
def shp : List Slot → List Slot → Bool
  | [], [] => true
  | .dat _ :: ps, .dat _ :: qs => shp ps qs
  | .par _ :: ps, .par _ :: qs => shp ps qs
  | .par _ :: ps, .dat _ :: qs => shp ps qs
  | _, _ => false
theorem outs_shp : ∀ {ps ls : List Slot}, outOk ps ls = true → ∃ ps', outs ps ls = some ps' ∧ shp ps ps' = true
  | [], _, _ => ⟨[], rfl, rfl⟩
  | .dat d :: ps, s :: ls, h => by
    obtain ⟨ps', a, b⟩ := outs_shp (ps := ps) (ls := ls) h
    exact ⟨.dat d :: ps', by simp only [outs, a, Option.map_some], b⟩
  | .par d :: ps, .par d' :: ls, h => by
    obtain ⟨ps', a, b⟩ := outs_shp (ps := ps) (ls := ls) h
    exact ⟨.par d' :: ps', by simp only [outs, a, Option.map_some], b⟩
  | .par d :: ps, .pdt d' :: ls, h => by
    obtain ⟨ps', a, b⟩ := outs_shp (ps := ps) (ls := ls) h
    exact ⟨.dat d' :: ps', by simp only [outs, a, Option.map_some], b⟩
  | .dat _ :: _, [], h => by simp [outOk] at h
  | .par _ :: _, [], h => by simp [outOk] at h
  | .emp :: _, _, h => by simp [outOk] at h
  | .own _ :: _, _, h => by simp [outOk] at h
  | .pdt _ :: _, _, h => by simp [outOk] at h
  | .ali _ :: _, _, h => by simp [outOk] at h
  | .tre _ :: _, _, h => by simp [outOk] at h
  | .ptr _ :: _, _, h => by simp [outOk] at h
  | .par _ :: _, .emp :: _, h => by simp [outOk] at h
  | .par _ :: _, .own _ :: _, h => by simp [outOk] at h
  | .par _ :: _, .dat _ :: _, h => by simp [outOk] at h
  | .par _ :: _, .ali _ :: _, h => by simp [outOk] at h
  | .par _ :: _, .tre _ :: _, h => by simp [outOk] at h
  | .par _ :: _, .ptr _ :: _, h => by simp [outOk] at h
def keepR (a b : Slot) : Bool := match a, b with
  | .own _, .own _ => true
  | .own _, .dat _ => true
  | .par _, .par _ => true
  | .par _, .pdt _ => true
  | _, _ => false
structure Fr (ρ β : Type) where
  ps : LS
  Rk : ρ → Slot × LS
  Eb : β → LS
def SimS {ρ β σ : Type} (F : Fr ρ β) (E : σ → LS) (r : S) (c : Ctl ρ β σ) : Prop := match c with
  | .nx s => r = .nx (E s)
  | .ret v => ∃ k ls, r = .ret k ls ∧ finF F.ps (.ret k ls) = .ok (F.Rk v).1 (F.Rk v).2
  | .brk b => r = .brk (F.Eb b)
  | .cnt b => r = .cnt (F.Eb b)
  | .err x => ∃ ls, r = .err x ls ∧ outOk F.ps ls = true
  | .stk => True
def SimE {β : Type} (E : β → Slot × LS) (r : R) (t : Res β) : Prop := match t with
  | .ok b => r = .ok (E b).1 (E b).2
  | _ => True
def SimF {α : Type} (ps : LS) (E : α → Slot × LS) (r : RF) (t : Res α) : Prop := match t with
  | .ok a => r = .ok (E a).1 (E a).2
  | .err x => ∃ ps', r = .err x ps' ∧ shp ps ps' = true
  | .stk => True
section
variable {α ρ β σ τ γ : Type} {F : Fr ρ β} {E : σ → LS} {E2 : τ → LS} {r : S} {a b : SM} {ls ls1 ls2 : LS} {c : Ctl ρ β σ}
theorem SimF.ok {ps : LS} {E : α → Slot × LS} {r : RF} {t : Res α} {v : α} (h : SimF ps E r t) (e : t = .ok v) : r = .ok (E v).1 (E v).2 := by subst e; exact h
theorem SimF.er {ps : LS} {E : α → Slot × LS} {r : RF} {t : Res α} {x : Exn} (h : SimF ps E r t) (e : t = .err x) : ∃ ps', r = .err x ps' ∧ shp ps ps' = true := by subst e; exact h
theorem SimE.ok' {E : α → Slot × LS} {r : R} {t : Res α} {v : α} (h : SimE E r t) (e : t = .ok v) : r = .ok (E v).1 (E v).2 := by subst e; exact h
theorem SimS.seq {c2 : σ → Ctl ρ β τ} (h : SimS F E (a ls) c) (h2 : ∀ s, SimS F E2 (b (E s)) (c2 s)) : SimS F E2 (seqM a b ls) (c.bind c2) := by
  show SimS F E2 ((a ls).bind b) _
  cases c with
  | nx s =>
    have h : a ls = .nx (E s) := h
    rw [h]; exact h2 s
  | ret v =>
    obtain ⟨k, l, e, q⟩ := h
    rw [e]; exact ⟨k, l, rfl, q⟩
  | brk v =>
    have h : a ls = .brk (F.Eb v) := h
    rw [h]; rfl
  | cnt v =>
    have h : a ls = .cnt (F.Eb v) := h
    rw [h]; rfl
  | err x =>
    obtain ⟨l, e, q⟩ := h
    rw [e]; exact ⟨l, rfl, q⟩
  | stk => trivial
theorem SimS.bindC {t : Res α} {c : α → Ctl ρ β σ} (he : ∀ x, t = .err x → SimS F E r (.err x : Ctl ρ β σ)) (ho : ∀ a, t = .ok a → SimS F E r (c a)) : SimS F E r (t.bindC c) := by
  cases t with
  | ok a => exact ho a rfl
  | err x => exact he x rfl
  | stk => trivial
theorem SimS.bindD {t : Res α} {c : α → Ctl ρ β σ} (ho : ∀ a, t = .ok a → SimS F E r (c a)) : SimS F E r (t.bindD c) := by
  cases t with
  | ok a => exact ho a rfl
  | err x => trivial
  | stk => trivial
theorem SimS.gd {p : Prop} [Decidable p] (h : p → SimS F E r c) : SimS F E r (gdC p c) := by
  by_cases hp : p
  · rw [gdC_pos hp]; exact h hp
  · unfold gdC; rw [if_neg hp]; trivial
theorem SimS.ite {p : Bool} {c' : Ctl ρ β σ} (h1 : p = true → SimS F E r c) (h2 : p = false → SimS F E r c') : SimS F E r (if p = true then c else c') := by
  cases p with
  | true => exact h1 rfl
  | false => exact h2 rfl
theorem SimE.bindN {E : γ → Slot × LS} {r : R} {t : Res α} {c : α → Res γ} (ho : ∀ a, t = .ok a → SimE E r (c a)) : SimE E r (t.bindN c) := by
  cases t with
  | ok a => exact ho a rfl
  | err x => trivial
  | stk => trivial
theorem SimE.gd {E : γ → Slot × LS} {r : R} {c : Res γ} {p : Prop} [Decidable p] (h : p → SimE E r c) : SimE E r (gdR p c) := by
  by_cases hp : p
  · rw [gdR_pos hp]; exact h hp
  · unfold gdR; rw [if_neg hp]; trivial
theorem SimE.ite {E : γ → Slot × LS} {r : R} {p : Bool} {c c' : Res γ} (h1 : p = true → SimE E r c) (h2 : p = false → SimE E r c') : SimE E r (if p = true then c else c') := by
  cases p with
  | true => exact h1 rfl
  | false => exact h2 rfl
theorem SimS.retI {k : Slot} {v : ρ} (h : r = .ret k ls) (q : finF F.ps (.ret k ls) = .ok (F.Rk v).1 (F.Rk v).2) : SimS F E r (.ret v) := ⟨k, ls, h, q⟩
theorem SimS.conv {r' : S} (e : r' = r) (h : SimS F E r c) : SimS F E r' c := by rw [e]; exact h
theorem fun_sim {n : Nat} {s : SM} {ps : LS} {Rk : ρ → Slot × LS} {Eb : β → LS} {c : Ctl ρ β σ} {h : σ → Res ρ} (hb : SimS ⟨ps, Rk, Eb⟩ E (s (startLS n ps)) c)
    (hn : ∀ s, SimF ps Rk (finF ps (.nx (E s))) (h s)) : SimF ps Rk (funM n s ps) (c.res h) := by
  show SimF ps Rk (finF ps (s (startLS n ps))) _
  cases c with
  | nx s' =>
    have hb : s (startLS n ps) = .nx (E s') := hb
    rw [hb]; exact hn s'
  | ret v =>
    obtain ⟨k, l, e, q⟩ := hb
    rw [e]; exact q
  | err x =>
    obtain ⟨l, e, q⟩ := hb
    obtain ⟨ps', a, b⟩ := outs_shp q
    rw [e]
    refine ⟨ps', ?_, b⟩
    simp only [finF]
    rw [show outs ps l = some ps' from a]
  | brk v => trivial
  | cnt v => trivial
  | stk => trivial
theorem SimS.forL {ps : LS} {Rk : ρ → Slot × LS} {Eb : β → LS} {g : Gd} {tg : TgM} {body : SM} {e : α → D} {b : α → σ → Ctl ρ σ σ} (hg : ∀ s, gOk g (E s) = true)
    (hb : ∀ x s, ∃ ls1, tg (e x) (E s) = some ls1 ∧ SimS ⟨ps, Rk, E⟩ E (body ls1) (b x s)) : ∀ xs s, SimS ⟨ps, Rk, Eb⟩ E (forL g tg body (xs.map e) (E s)) (forT b xs s)
  | [], s => by
    show VM.forL g tg body [] (E s) = .nx (E s)
    unfold VM.forL
    rw [if_pos (hg s)]
  | x :: xs, s => by
    obtain ⟨ls1, h1, h2⟩ := hb x s
    rw [List.map_cons]
    unfold VM.forL forT
    rw [if_pos (hg s), h1]
    simp only []
    cases hc : b x s with
    | nx s' =>
      rw [hc] at h2
      have h2 : body ls1 = .nx (E s') := h2
      simp only [h2]
      exact SimS.forL hg hb xs s'
    | cnt s' =>
      rw [hc] at h2
      have h2 : body ls1 = .cnt (E s') := h2
      simp only [h2]
      exact SimS.forL hg hb xs s'
    | brk s' =>
      rw [hc] at h2
      have h2 : body ls1 = .brk (E s') := h2
      simp only [h2]
      rfl
    | ret v =>
      rw [hc] at h2
      obtain ⟨k, l, q1, q2⟩ := h2
      simp only [q1]
      exact ⟨k, l, rfl, q2⟩
    | err v =>
      rw [hc] at h2
      obtain ⟨l, q1, q2⟩ := h2
      simp only [q1]
      exact ⟨l, rfl, q2⟩
    | stk => trivial
theorem SimS.whileL {ps : LS} {Rk : ρ → Slot × LS} {Eb : β → LS} {t : M} {body : SM} {c : σ → Res (Bool × σ)} {b : σ → Ctl ρ σ σ} (hc : ∀ s, SimE (fun q : Bool × σ => (.dat (.bl q.1), E q.2)) (t (E s)) (c s))
    (hb : ∀ s, SimS ⟨ps, Rk, E⟩ E (body (E s)) (b s)) : ∀ n s, SimS ⟨ps, Rk, Eb⟩ E (whileL t body n (E s)) (whileTL c b n s)
  | 0, s => trivial
  | n + 1, s => by
    unfold VM.whileL whileTL
    have h1 := hc s
    cases e1 : c s with
    | stk => trivial
    | err x => trivial
    | ok q =>
      obtain ⟨k, s1⟩ := q
      rw [e1] at h1
      have h1 : t (E s) = .ok (.dat (.bl k)) (E s1) := h1
      rw [h1]
      cases k with
      | false => rfl
      | true =>
        simp only []
        have h2 := hb s1
        cases hc' : b s1 with
        | nx s' =>
          rw [hc'] at h2
          have h2 : body (E s1) = .nx (E s') := h2
          simp only [h2]
          exact SimS.whileL hc hb n s'
        | cnt s' =>
          rw [hc'] at h2
          have h2 : body (E s1) = .cnt (E s') := h2
          simp only [h2]
          exact SimS.whileL hc hb n s'
        | brk s' =>
          rw [hc'] at h2
          have h2 : body (E s1) = .brk (E s') := h2
          simp only [h2]
          rfl
        | ret v =>
          rw [hc'] at h2
          obtain ⟨k, l, q1, q2⟩ := h2
          simp only [q1]
          exact ⟨k, l, rfl, q2⟩
        | err v =>
          rw [hc'] at h2
          obtain ⟨l, q1, q2⟩ := h2
          simp only [q1]
          exact ⟨l, rfl, q2⟩
        | stk => trivial
theorem whileL_monoT {t : M} {body : SM} : ∀ {n ls m}, whileL t body n ls ≠ .stk → n ≤ m → whileL t body m ls = whileL t body n ls
  | 0, _, _, h, _ => absurd rfl h
  | n + 1, ls, 0, h, hm => by omega
  | n + 1, ls, m + 1, h, hm => by
    unfold VM.whileL at h ⊢
    cases e : t ls with
    | stk => rfl
    | err x l => rfl
    | ok k l =>
      rw [e] at h
      cases k with
      | dat d =>
        cases d with
        | bl v =>
          cases v with
          | false => rfl
          | true =>
            simp only [] at h ⊢
            cases e2 : body l with
            | nx l2 =>
              simp only [e2] at h ⊢
              exact whileL_monoT h (by omega)
            | cnt l2 =>
              simp only [e2] at h ⊢
              exact whileL_monoT h (by omega)
            | _ => rfl
        | _ => rfl
      | _ => rfl
theorem whileM_ofT {t : M} {body : SM} {n : Nat} (h : whileL t body n ls ≠ .stk) : whileM t body ls = whileL t body n ls := by
  have hx : ∃ n, whileL t body n ls ≠ .stk := ⟨n, h⟩
  unfold whileM
  rw [dif_pos hx]
  have h2 := Classical.choose_spec hx
  rcases Nat.le_total n (Classical.choose hx) with z | z
  · exact whileL_monoT h z
  · exact (whileL_monoT h2 z).symm
theorem SimS.while {ps : LS} {Rk : ρ → Slot × LS} {Eb : β → LS} {t : M} {body : SM} {c : σ → Res (Bool × σ)} {b : σ → Ctl ρ σ σ} (hc : ∀ s, SimE (fun q : Bool × σ => (.dat (.bl q.1), E q.2)) (t (E s)) (c s))
    (hb : ∀ s, SimS ⟨ps, Rk, E⟩ E (body (E s)) (b s)) (s : σ) : SimS ⟨ps, Rk, Eb⟩ E (whileM t body (E s)) (whileT c b s) := by
  unfold whileT
  split
  · rename_i h
    have hn := Classical.choose_spec h
    have q := SimS.whileL (Eb := Eb) hc hb (Classical.choose h) s
    have ns : VM.whileL t body (Classical.choose h) (E s) ≠ .stk := fun z => by
      rw [z] at q
      cases e : whileTL (β := β) c b (Classical.choose h) s with
      | stk => exact hn e
      | nx s' => rw [e] at q; cases q
      | ret v => rw [e] at q; obtain ⟨_, _, q, _⟩ := q; cases q
      | brk v => rw [e] at q; cases q
      | cnt v => rw [e] at q; cases q
      | err v => rw [e] at q; obtain ⟨_, q, _⟩ := q; cases q
    rw [whileM_ofT ns]
    exact q
  · trivial
theorem SimE.lcL {own : List Nat} {g : Gd} {tg : TgM} {t el : M} {e : α → D} {E : σ → LS} {f : γ → D} {tt : α → σ → Res (Bool × σ)} {te : α → σ → Res (γ × σ)} {E1 : α → σ → LS} (hg : ∀ s, gOk g (E s) = true)
    (htg : ∀ x s, tg (e x) (E s) = some (E1 x s)) (hw : ∀ x s, wipeL (E1 x s) own = E s)
    (ht : ∀ x s, SimE (fun q : Bool × σ => (.dat (.bl q.1), E1 x q.2)) (t (E1 x s)) (tt x s))
    (he : ∀ x s, ∀ y s', te x s = .ok (y, s') → ∃ k ls', el (E1 x s) = .ok k ls' ∧ freezeK k ls' = some (f y, E1 x s')) : ∀ xs s acc ys s', lcT tt te xs s = .ok (ys, s') → acc.length + xs.length ≤ 1000000 →
    lcL own g tg t el (xs.map e) (E s) acc = .ok (.own (.lst (acc ++ ys.map f))) (E s')
  | [], s, acc, ys, s', h, hl => by
    unfold lcT at h
    cases h
    simp only [List.map_nil]
    unfold VM.lcL
    rw [if_pos (hg _), List.append_nil]
  | x :: xs, s, acc, ys, s', h, hl => by
    unfold lcT at h
    simp at hl
    rw [List.map_cons]
    unfold VM.lcL
    rw [if_pos (hg _), htg]
    simp only []
    have h1 := ht x s
    cases e1 : tt x s with
    | stk => rw [e1] at h; cases h
    | err x => rw [e1] at h; cases h
    | ok q =>
      obtain ⟨k, s1⟩ := q
      rw [e1] at h h1
      have h1 : t (E1 x s) = .ok (.dat (.bl k)) (E1 x s1) := h1
      rw [h1]
      cases k with
      | false =>
        simp only [] at h ⊢
        rw [hw]
        exact SimE.lcL hg htg hw ht he xs s1 acc ys s' h (by omega)
      | true =>
        simp only [] at h ⊢
        cases e2 : te x s1 with
        | stk => rw [e2] at h; cases h
        | err x => rw [e2] at h; cases h
        | ok q2 =>
          obtain ⟨y, s2⟩ := q2
          rw [e2] at h
          simp only [] at h
          obtain ⟨k, ls', f1, f2⟩ := he x s1 y s2 e2
          simp only [f1, f2]
          rw [if_pos (by omega), hw]
          cases e3 : lcT tt te xs s2 with
          | stk => rw [e3] at h; cases h
          | err x => rw [e3] at h; cases h
          | ok q3 =>
            obtain ⟨zs, s3⟩ := q3
            rw [e3] at h
            cases h
            have := SimE.lcL hg htg hw ht he xs s2 (acc ++ [f y]) zs _ e3 (by simp; omega)
            rw [this, List.map_cons, List.append_assoc]
            rfl
end
section
variable {α β γ δ ε κ ζ : Type}
abbrev eD : D → D := fun d => d
abbrev eL (f : α → D) (xs : List α) : D := .lst (xs.map f)
abbrev eQ (f : α → D) (xs : List α) : D := .tup (xs.map f)
abbrev eP (f : α → D) (g : β → D) (p : α × β) : D := .tup [f p.1, g p.2]
abbrev eP3 (f : α → D) (g : β → D) (h : γ → D) (p : α × β × γ) : D := .tup [f p.1, g p.2.1, h p.2.2]
abbrev eP4 (f : α → D) (g : β → D) (h : γ → D) (i : δ → D) (p : α × β × γ × δ) : D := .tup [f p.1, g p.2.1, h p.2.2.1, i p.2.2.2]
abbrev eP5 (f : α → D) (g : β → D) (h : γ → D) (i : δ → D) (j : ε → D) (p : α × β × γ × δ × ε) : D := .tup [f p.1, g p.2.1, h p.2.2.1, i p.2.2.2.1, j p.2.2.2.2]
abbrev eP6 (f : α → D) (g : β → D) (h : γ → D) (i : δ → D) (j : ε → D) (k : ζ → D) (p : α × β × γ × δ × ε × ζ) : D := .tup [f p.1, g p.2.1, h p.2.2.1, i p.2.2.2.1, j p.2.2.2.2.1, k p.2.2.2.2.2]
abbrev eX2 (f : α → D) (g : β → D) (p : α × β) : D := .lst [f p.1, g p.2]
def eO (f : α → D) : Option α → D
  | none => .non
  | some a => f a
abbrev eK (f : α → D) (es : List (Int × α)) : D := .dK (es.map fun p => (Sum.inl p.1, f p.2))
abbrev eKS (f : α → D) (es : List (Str × α)) : D := .dK (es.map fun p => (Sum.inr p.1, f p.2))
abbrev eT (k : κ → List Key) (f : α → D) (es : List (κ × α)) : D := .dT (es.map fun p => (k p.1, f p.2))
abbrev kJ (p : Int × Int) : List Key := [.inl p.1, .inl p.2]
abbrev kR (r : List Int) : List Key := r.map .inl
abbrev eJ : Int × Int → D := eP .int .int
abbrev eF : Int × Int → D := eX2 .int .int
end
section
variable {ls ls1 ls2 ls3 ls4 : LS} {k k1 k2 k3 : Slot} {d d1 d2 x y : D} {a b m : M} {am : AM} {as : List Slot} {ds : List D} {i j : Nat} {c c' : Bool} {xn : Exn} {sa sb : SM}
theorem v_var (h : varM i ls = .ok k ls := by rfl) : varM i ls = .ok k ls := h
theorem v_con : conM d ls = .ok (.dat d) ls := rfl
theorem v_bin {g : D → D → Option Slot} (h1 : a ls = .ok k1 ls1) (h2 : b ls1 = .ok k2 ls2) (l1 : look ls2 k1 = some x) (l2 : look ls2 k2 = some y) (e : g x y = some k) : binM g a b ls = .ok k ls2 := by
  simp only [binM_ap, h1, Rb_ok, h2, lift2, l1, l2, e]
theorem v_not (h : a ls = .ok (.dat (.bl c)) ls1) : notM a ls = .ok (.dat (.bl (!c))) ls1 := by simp only [notM_ap, h, Rb_ok]
theorem v_or (h : a ls = .ok (.dat (.bl c)) ls1) (h2 : b ls1 = .ok (.dat (.bl c')) ls1) : orM a b ls = .ok (.dat (.bl (c || c'))) ls1 := by
  simp only [orM_ap, h, Rb_ok]
  cases c
  · simpa using h2
  · rfl
theorem SimE.okI {α : Type} {f : α → Slot} {v : α} {r : R} (h : r = .ok (f v) ls2) : SimE (fun v => (f v, ls2)) r (.ok v) := h
def andR (c : Bool) (t : Res Bool) : Res Bool := if c = true then t else .ok false
def orR (c : Bool) (t : Res Bool) : Res Bool := if c = true then .ok true else t
def iteR {α : Type} (c : Bool) (t e : Res α) : Res α := if c = true then t else e
theorem v_orR {v : Bool} {t : Res Bool} (e : orR c t = .ok v) (h : a ls = .ok (.dat (.bl c)) ls1) (h2 : c = false → SimE (fun v => (.dat (.bl v), ls1)) (b ls1) t) : orM a b ls = .ok (.dat (.bl v)) ls1 := by
  simp only [orM_ap, h, Rb_ok]
  cases c
  · exact (h2 rfl).ok' e
  · cases e; rfl
theorem v_iteR {α : Type} {f : α → Slot} {v : α} {t t' : Res α} {m : M} (e : iteR c t t' = .ok v) (h : m ls = .ok (.dat (.bl c)) ls1) (h1 : c = true → SimE (fun v => (f v, ls2)) (a ls1) t) (h2 : c = false → SimE (fun v => (f v, ls2)) (b ls1) t') : iteM m a b ls = .ok (f v) ls2 := by
  simp only [iteM_ap, h, Rb_ok]
  cases c
  · exact (h2 rfl).ok' e
  · exact (h1 rfl).ok' e
theorem v_nil : nilA ls = .ok [] ls := rfl
theorem v_cons {r : AM} (h : m ls = .ok k ls1) (h2 : r ls1 = .ok as ls2) : consA m r ls = .ok (k :: as) ls2 := by
  simp only [consA_ap, h, RbA_ok, h2]
theorem v_tup (h : am ls = .ok as ls1) (h2 : dats as = some ds) (h3 : Nat.ble ds.length 1000 = true) : tupM am ls = .ok (.dat (.tup ds)) ls1 := by
  simp only [tupM_ap, h, RAb_ok, h2, if_pos (Nat.le_of_ble_eq_true h3)]
theorem v_lst (h : am ls = .ok as ls1) (h2 : dats as = some ds) (h3 : Nat.ble ds.length 1000 = true) : lstM am ls = .ok (.own (.lst ds)) ls1 := by
  simp only [lstM_ap, h, RAb_ok, h2, if_pos (Nat.le_of_ble_eq_true h3)]
theorem v_frz (h : m ls = .ok k ls1) (h2 : freezeK k ls1 = some (d, ls2)) : frzM m ls = .ok (.dat d) ls2 := by
  simp only [frzM_ap, h, Rb_ok, h2]
theorem v_blt {g : List D → Option Slot} (h : am ls = .ok as ls1) (h2 : looks ls1 as = some ds) (e : g ds = some k) : bltM g am ls = .ok k ls1 := by
  show (am ls).bind _ = _
  simp only [h, RAb_ok, h2, e]
theorem v_callK {f : List Slot → RF} {ps ps' : List Slot} (h3 : (alis as).Nodup) (h4 : hands ls as = some ps) (h5 : f ps = .ok k ps') (h6 : backs as ps' ls = some ls2) (h7 : k.res = true) : callK f as ls = .ok k ls2 := by
  unfold callK
  rw [if_pos h3, h4]
  simp only [h5, h6, h7, if_true]
theorem v_call {n : Nat} {f : List Slot → RF} {ps ps' : List Slot} (h1 : am ls = .ok as ls1) (h2 : as.length = n) (h3 : (alis as).Nodup) (h4 : hands ls1 as = some ps) (h5 : f ps = .ok k ps') (h6 : backs as ps' ls1 = some ls2) (h7 : k.res = true) : callN n f am ls = .ok k ls2 := by
  simp only [callN_ap, h1, RAb_ok, if_pos h2]
  exact v_callK h3 h4 h5 h6 h7
theorem v_lc {own : List Nat} {src : IM} {tg : TgM} {t e : M} {items : List D} {g : Gd} {r : R} (h : src ls = .ok items g ls1) (hm : empAt ls1 own = true) (hr : lcL own g tg t e items ls1 [] = r) : lcM own src tg t e ls = r := by
  simp only [lcM, h, hm, if_true, hr]
theorem v_rng1 {n : Int} (h : am ls = .ok [.dat (.int n)] ls1) (hn : inR n = true) : rng1 am ls = .ok (rangeD 0 n.toNat) none ls1 := by
  simp only [rng1, h, hn, if_true]
theorem v_enF (h : am ls = .ok [k] ls1) (hl : live k ls1 = none) (h2 : freezeK k ls1 = some (.lst ds, ls2)) : enumM am ls = .ok (enumD ds) none ls2 := by
  simp only [enumM, h, hl, h2]
theorem w_asg (h : m ls = .ok k ls1) (h2 : asgK i k ls1 = .nx ls2) : asgM i m ls = .nx ls2 := by simp only [asgM_ap, h, RbS_ok, h2]
theorem w_setI {om im vm : M} (h1 : frzM vm ls = .ok (.dat d) ls1) (h2 : om ls1 = .ok (.ali j) ls2) (h3 : im ls2 = .ok k ls3) (l : look ls3 k = some x) (h5 : chg j (fun x' => setD x' x d) ls3 = some ls4) : setI om im vm ls = .nx ls4 := by
  show (frzM vm ls).bindS _ = _
  simp only [h1, RbS_ok, h2, h3, l, h5]
theorem w_ret (h : m ls = .ok k ls1) : retM m ls = .ret k ls1 := by simp only [retM_ap, h, RbS_ok]
theorem w_nx : nxM ls = .nx ls := rfl
theorem f_seq_r (h : sa ls = .ret k ls1) : seqM sa sb ls = .ret k ls1 := by simp only [seqM_ap, h, Sb_ret]
theorem f_if_t {r : S} (h : m ls = .ok (.dat (.bl c)) ls1) (hc : c = true) (e : sa ls1 = r) : ifS m sa sb ls = r := by
  subst hc; simp only [ifS_ap, h, RbS_ok, e]
theorem f_if_f {r : S} (h : m ls = .ok (.dat (.bl c)) ls1) (hc : c = false) (e : sb ls1 = r) : ifS m sa sb ls = r := by
  subst hc; simp only [ifS_ap, h, RbS_ok, e]
theorem f_fga_r {ws : List Nat} (h : sa ls = .ret k ls1) : fgaS ws sa ls = .ret k ls1 := by simp only [fgaS, h, wipeS]
theorem f_fgt {ws : List Nat} {r : S} (h : wipeL ls ws = ls1) (e : sa ls1 = r) : fgtS ws sa ls = r := by simp only [fgtS, h, e]
theorem f_for {src : IM} {tg : TgM} {ds : List D} {g : Gd} {r : S} (h : src ls = .ok ds g ls1) (e : forL g tg sa ds ls1 = r) : forM src tg sa ls = r := by
  show (src ls).bind _ = _
  rw [h]; exact e
end
section
variable {α β γ δ κ : Type}
structure Pl (f : α → D) (n : Nat) where
  p : α → PyData
  to : ∀ a, toPy (f a) = some (p a)
  lay : ∀ a, (p a).canLay0 = true
  dep : ∀ a, (p a).depth ≤ n
  eqv : ∀ a b, PyData.eqv (p a) (p b) = true ↔ a = b
theorem Pl.sh {f : α → D} {n : Nat} (h : Pl f n) (hn : n ≤ 64) (a : α) : SeqAt.shaped (h.p a) = true := by
  simp only [SeqAt.shaped, h.lay, Bool.true_and]
  exact decide_eq_true (Nat.le_trans (h.dep a) hn)
def Pl.int : Pl D.int 0 := ⟨fun i => .int i, fun _ => rfl, fun _ => rfl, fun _ => by simp [PyData.depth], fun a b => by simp [PyData.eqv]⟩
def Pl.bl : Pl D.bl 0 := ⟨fun i => .bool i, fun _ => rfl, fun _ => rfl, fun _ => by simp [PyData.depth], fun a b => by simp [PyData.eqv]⟩
theorem Pl.tos {f : α → D} {n : Nat} (h : Pl f n) : ∀ xs : List α, toPys (xs.map f) = some (xs.map h.p)
  | [] => by simp [toPys]
  | a :: xs => by simp [toPys, h.to, Pl.tos h xs]
theorem Pl.lays {f : α → D} {n : Nat} (h : Pl f n) : ∀ xs : List α, PyData.canLayAll0 (xs.map h.p) = true
  | [] => by simp [PyData.canLayAll0]
  | a :: xs => by simp [PyData.canLayAll0, h.lay, Pl.lays h xs]
theorem Pl.deps {f : α → D} {n : Nat} (h : Pl f n) : ∀ xs : List α, PyData.depthAll (xs.map h.p) ≤ n
  | [] => by simp [PyData.depthAll]
  | a :: xs => by
    have := h.dep a
    have := Pl.deps h xs
    simp [PyData.depthAll]; omega
theorem Pl.eqvs {f : α → D} {n : Nat} (h : Pl f n) : ∀ xs ys : List α, PyData.eqvAll (xs.map h.p) (ys.map h.p) = true ↔ xs = ys
  | [], [] => by simp [PyData.eqvAll]
  | [], _ :: _ => by simp [PyData.eqvAll]
  | _ :: _, [] => by simp [PyData.eqvAll]
  | a :: xs, b :: ys => by simp [PyData.eqvAll, h.eqv, Pl.eqvs h xs ys]
def Pl.lst {f : α → D} {n : Nat} (h : Pl f n) : Pl (eL f) (n + 1) := ⟨fun xs => .list (xs.map h.p), fun xs => by simp [toPy, h.tos], fun xs => by simp [PyData.canLay0, h.lays], fun xs => by
  have := h.deps xs
  simp [PyData.depth]; omega, fun a b => by simp [PyData.eqv, h.eqvs]⟩
def Pl.tup {f : α → D} {n : Nat} (h : Pl f n) : Pl (eQ f) (n + 1) := ⟨fun xs => .tuple (xs.map h.p), fun xs => by simp [toPy, h.tos], fun xs => by simp [PyData.canLay0, h.lays], fun xs => by
  have := h.deps xs
  simp [PyData.depth]; omega, fun a b => by simp [PyData.eqv, h.eqvs]⟩
def Pl.pr {f : α → D} {g : β → D} {n m : Nat} (h : Pl f n) (h2 : Pl g m) : Pl (eP f g) (max n m + 1) := ⟨fun p => .tuple [h.p p.1, h2.p p.2], fun p => by simp [toPy, toPys, h.to, h2.to], fun p => by simp [PyData.canLay0, PyData.canLayAll0, h.lay, h2.lay], fun p => by
  have := h.dep p.1
  have := h2.dep p.2
  simp [PyData.depth, PyData.depthAll]; omega, fun a b => by
  obtain ⟨a1, a2⟩ := a; obtain ⟨b1, b2⟩ := b
  simp [PyData.eqv, PyData.eqvAll, h.eqv, h2.eqv]⟩
def Pl.pr3 {f : α → D} {g : β → D} {k : γ → D} {n m l : Nat} (h : Pl f n) (h2 : Pl g m) (h3 : Pl k l) : Pl (eP3 f g k) (max n (max m l) + 1) := ⟨fun p => .tuple [h.p p.1, h2.p p.2.1, h3.p p.2.2], fun p => by simp [toPy, toPys, h.to, h2.to, h3.to], fun p => by simp [PyData.canLay0, PyData.canLayAll0, h.lay, h2.lay, h3.lay], fun p => by
  have := h.dep p.1
  have := h2.dep p.2.1
  have := h3.dep p.2.2
  simp [PyData.depth, PyData.depthAll]; omega, fun a b => by
  obtain ⟨a1, a2, a3⟩ := a; obtain ⟨b1, b2, b3⟩ := b
  simp [PyData.eqv, PyData.eqvAll, h.eqv, h2.eqv, h3.eqv]⟩
section
variable {f : α → D} {n : Nat} [DecidableEq α] (h : Pl f n) (hn : n ≤ 60)
include h hn
theorem u_eqP (a b : α) : eqP (f a) (f b) = some (decide (a = b)) := by
  simp only [eqP, h.to, h.sh (Nat.le_trans hn (by decide)), and_self, if_true]
  congr 1
  rw [Bool.eq_iff_iff, h.eqv, decide_eq_true_iff]
theorem u_eq (a b : α) : eqD (f a) (f b) = some (.dat (.bl (decide (a = b)))) := by simp only [eqD_ap, u_eqP h hn, Option.map_some]
theorem u_ne (a b : α) : neD (f a) (f b) = some (.dat (.bl (!decide (a = b)))) := by simp only [neD_ap, u_eqP h hn, Option.map_some]
end
theorem u_add (a b : Int) : addD (.int a) (.int b) = some (.dat (.int (a + b))) := rfl
theorem u_addl {f : α → D} {xs ys : List α} (h : xs.length + ys.length ≤ 1000000) : addD (eL f xs) (eL f ys) = some (.own (eL f (xs ++ ys))) := by
  simp only [eL, addD, List.length_map, if_pos h, List.map_append]
theorem u_sub (a b : Int) : subD (.int a) (.int b) = some (.dat (.int (a - b))) := rfl
def mulOk (i j : Int) : Prop := ((-(2 ^ 64) < i ∧ i < 2 ^ 64) ∨ (-(2 ^ 64) < j ∧ j < 2 ^ 64)) ∨ i.natAbs.log2 + j.natAbs.log2 < 1000000
instance (i j : Int) : Decidable (mulOk i j) := by unfold mulOk; infer_instance
theorem u_mul {a b : Int} (h : mulOk a b) : mulD (.int a) (.int b) = some (.dat (.int (a * b))) := if_pos h
theorem u_mull {f : α → D} {xs : List α} {k : Int} (h : 0 ≤ k ∧ k < 100000 ∧ xs.length * k.toNat ≤ 1000000) : mulD (eL f xs) (.int k) = some (.own (eL f (List.replicate k.toNat xs).flatten)) := by
  simp only [eL, mulD, List.length_map, if_pos h, List.map_flatten, List.map_replicate]
theorem u_mod {a b : Int} (h : 0 < b) : modD (.int a) (.int b) = some (.dat (.int (a % b))) := if_pos h
theorem u_fdiv {a b : Int} (h : 0 < b ∧ b.natAbs.log2 < 9000) : fdivD (.int a) (.int b) = some (.dat (.int (a / b))) := if_pos h
theorem u_pow {a : Int} {n : Nat} (h : n ≤ 1000 ∧ a.natAbs < 1000) : powD (.int a) (.int n) = some (.dat (.int (a ^ n))) := by
  have : powD (.int a) (.int n) = if 0 ≤ (n : Int) ∧ (n : Int) ≤ 1000 ∧ a.natAbs < 1000 then some (.dat (.int (a ^ (n : Int).toNat))) else none := rfl
  rw [this, if_pos ⟨by omega, by omega, h.2⟩, Int.toNat_natCast]
theorem u_lt (a b : Int) : ltD (.int a) (.int b) = some (.dat (.bl (decide (a < b)))) := rfl
theorem u_gt (a b : Int) : gtD (.int a) (.int b) = some (.dat (.bl (decide (b < a)))) := rfl
theorem atI_map {f : α → β} (xs : List α) (i : Int) : atI (xs.map f) i = (atI xs i).map f := by
  unfold atI
  simp only [List.length_map, List.getElem?_map]
  cases ixN xs.length i <;> rfl
theorem u_ixl {f : α → D} {xs : List α} {i : Int} {v : α} (h : atI xs i = some v) : ixD (eL f xs) (.int i) = some (.dat (f v)) := by
  simp only [ixD_l, atI_map, h, Option.map_some]
theorem u_ixs {ns : List Int} {i v : Int} (h : atI ns i = some v) : ixD (.scr ns) (.int i) = some (.dat (.int v)) := by
  simp only [ixD_s, h, Option.map_some]
theorem u_lix0 {x : D} {xs : List D} : ixD (.lst (x :: xs)) (.int 0) = some (.dat x) := by simp
theorem u_lix1 {x y : D} {xs : List D} : ixD (.lst (x :: y :: xs)) (.int 1) = some (.dat y) := by simp
theorem u_lenl {f : α → D} (xs : List α) : lenD [eL f xs] = some (.dat (.int xs.length)) := by simp only [lenD, List.length_map]
theorem u_lens (ns : List Int) : lenD [.scr ns] = some (.dat (.int ns.length)) := rfl
theorem u_abs (i : Int) : absD [.int i] = some (.dat (.int (if i < 0 then -i else i))) := rfl
theorem u_int (i : Int) : intD [.int i] = some (.dat (.int i)) := rfl
theorem u_max (i j : Int) : maxD [.int i, .int j] = some (.dat (.int (if j > i then j else i))) := rfl
theorem u_min (i j : Int) : minD [.int i, .int j] = some (.dat (.int (if j < i then j else i))) := rfl
def rangeZ (lo : Int) (n : Nat) : List Int := (List.range n).map fun i => lo + (i : Nat)
theorem rangeD_Z (lo : Int) (n : Nat) : rangeD lo n = (rangeZ lo n).map .int := by simp [rangeD, rangeZ]
def enumT (xs : List α) : List (Int × α) := xs.mapIdx fun i x => ((i : Int), x)
theorem enumD_T {f : α → D} (xs : List α) : enumD (xs.map f) = (enumT xs).map (eP .int f) := by
  unfold enumD enumT
  refine List.ext_getElem (by simp) fun i h1 h2 => ?_
  simp
def Inj (f : α → β) : Prop := ∀ a b, f a = f b → a = b
section
variable {ι : Type} [DecidableEq κ] [DecidableEq ι] {k : κ → ι} {f : α → D}
end
section
variable [DecidableEq κ] {k : κ → List Key} {fk : κ → D} {f : α → D} {es : List (κ × α)} {a : κ}
end
section
variable {f : α → D} {es : List (Int × α)} {a : Int}
end
section
variable {f : α → D} {es : List (Str × α)} {a : Str}
end
def setI' (xs : List α) (i : Int) (v : α) : Option (List α) := (ixN xs.length i).map fun j => xs.set j v
theorem u_setF0 (p : Int × Int) (v : Int) : setD (eF p) (.int 0) (.int v) = some (eF (v, p.2)) := by simp [ixN]
theorem u_setF1 (p : Int × Int) (v : Int) : setD (eF p) (.int 1) (.int v) = some (eF (p.1, v)) := by simp [ixN]
theorem chg_par {ls : LS} {i : Nat} {g : D → Option D} {d d' : D} (l : ls[i]? = some (.par d)) (h : g d = some d') : chg i g ls = some (ls.set i (.par d')) := by simp only [chg, l, h, Option.map_some]
end
section
variable {α ρ β σ τ γ : Type} {F : Fr ρ β} {E : σ → LS} {E2 : τ → LS} {r r1 : S} {sa sb : SM} {ls ls1 ls2 : LS} {c : Ctl ρ β σ} {k : Slot} {xn : Exn} {ws : List Nat}
def letC (v : α) (c : α → Ctl ρ β σ) : Ctl ρ β σ := c v
theorem SimS.letC {v : α} {c : α → Ctl ρ β σ} (h : SimS F E r (c v)) : SimS F E r (VM.letC v c) := h
@[simp] theorem letC_ap {v : α} {c : α → Ctl ρ β σ} : letC v c = c v := rfl
def Ctl.thn (c : Ctl ρ Empty σ) (f : σ → Ctl ρ β τ) : Ctl ρ β τ := match c with
  | .nx s => f s
  | .ret r => .ret r
  | .err x => .err x
  | _ => .stk
@[simp] theorem Ctl.thn_nx {s : σ} {f : σ → Ctl ρ β τ} : (Ctl.nx s : Ctl ρ Empty σ).thn f = f s := rfl
@[simp] theorem Ctl.thn_ret {r : ρ} {f : σ → Ctl ρ β τ} : (Ctl.ret r : Ctl ρ Empty σ).thn f = .ret r := rfl
@[simp] theorem Ctl.thn_err {x} {f : σ → Ctl ρ β τ} : (Ctl.err x : Ctl ρ Empty σ).thn f = .err x := rfl
theorem SimS.loopK {K : S → S} (h1 : ∀ k ls, K (.ret k ls) = .ret k ls) (h2 : ∀ x ls, K (.err x ls) = .err x ls) {c : Ctl ρ Empty σ} {c2 : σ → Ctl ρ β τ} {E1 : σ → LS} (h : SimS ⟨F.ps, F.Rk, fun e => nomatch e⟩ E1 r c)
    (hn : ∀ s, SimS F E2 (K (.nx (E1 s))) (c2 s)) : SimS F E2 (K r) (c.thn c2) := by
  cases c with
  | nx s =>
    have h : r = .nx (E1 s) := h
    rw [h]; exact hn s
  | ret v =>
    obtain ⟨k, l, e, q⟩ := h
    rw [e, h1]; exact ⟨k, l, rfl, q⟩
  | brk v => exact nomatch v
  | cnt v => exact nomatch v
  | err x =>
    obtain ⟨l, e, q⟩ := h
    rw [e, h2]; exact ⟨l, rfl, q⟩
  | stk => trivial
theorem c_seq (p : sa ls = r) : seqM sa sb ls = r.bind sb := by rw [← p]; rfl
theorem c_fga (p : sa ls = r) : fgaS ws sa ls = wipeS ws r := by rw [← p]; rfl
theorem d_seq (p : r = r1) : r.bind sb = r1.bind sb := by rw [p]
theorem d_fga (p : r = r1) : wipeS ws r = wipeS ws r1 := by rw [p]
theorem b_seq_r (p : r = .ret k ls1) : r.bind sb = .ret k ls1 := by rw [p]; rfl
theorem b_fga (p : r = .nx ls1) : wipeS ws r = .nx (wipeL ls1 ws) := by rw [p]; rfl
theorem b_fga_r (p : r = .ret k ls1) : wipeS ws r = .ret k ls1 := by rw [p]; rfl
theorem optR_ok {o : Option α} {v : α} (h : optR o = .ok v) : o = some v := by
  cases o with
  | none => cases h
  | some a => cases h; rfl
theorem v_srcC {src : IM} {ds ds' : List D} {g : Gd} (h : src ls = .ok ds g ls1) (e : ds = ds') : src ls = .ok ds' g ls1 := by rw [h, e]
def LcE (f : γ → D) (E : σ → LS) (r : R) (t : Res (γ × σ)) : Prop := match t with
  | .ok q => ∃ k ls', r = .ok k ls' ∧ freezeK k ls' = some (f q.1, E q.2)
  | _ => True
theorem LcE.bindN {f : γ → D} {r : R} {t : Res α} {c : α → Res (γ × σ)} (ho : ∀ a, t = .ok a → LcE f E r (c a)) : LcE f E r (t.bindN c) := by
  cases t with
  | ok a => exact ho a rfl
  | err x => trivial
  | stk => trivial
theorem LcE.gd {f : γ → D} {r : R} {c : Res (γ × σ)} {p : Prop} [Decidable p] (h : p → LcE f E r c) : LcE f E r (gdR p c) := by
  by_cases hp : p
  · rw [gdR_pos hp]; exact h hp
  · unfold gdR; rw [if_neg hp]; trivial
theorem LcE.ite {f : γ → D} {r : R} {p : Bool} {c c' : Res (γ × σ)} (h1 : p = true → LcE f E r c) (h2 : p = false → LcE f E r c') : LcE f E r (if p = true then c else c') := by
  cases p with
  | true => exact h1 rfl
  | false => exact h2 rfl
theorem LcE.out {f : γ → D} {r : R} {t : Res (γ × σ)} (h : LcE f E r t) (y : γ) (s' : σ) (e : t = .ok (y, s')) : ∃ k ls', r = .ok k ls' ∧ freezeK k ls' = some (f y, E s') := by subst e; exact h
theorem lc_pure {own : List Nat} {g : Gd} {tg : TgM} {t el : M} {e : α → D} {f : γ → D} {p : α → Bool} {v : α → γ} {E1 : α → LS} (hg : gOk g ls = true) (htg : ∀ x, tg (e x) ls = some (E1 x)) (hw : ∀ x, wipeL (E1 x) own = ls)
    (ht : ∀ x, t (E1 x) = .ok (.dat (.bl (p x))) (E1 x)) (he : ∀ x, ∃ k, el (E1 x) = .ok k (E1 x) ∧ freezeK k (E1 x) = some (f (v x), E1 x)) (xs : List α) (hl : xs.length ≤ 1000000) :
    lcL own g tg t el (xs.map e) ls [] = .ok (.own (eL f ((xs.filter p).map v))) ls := by
  have key : ∀ (xs : List α) (acc : List D), acc.length + xs.length ≤ 1000000 → lcL own g tg t el (xs.map e) ls acc = .ok (.own (.lst (acc ++ ((xs.filter p).map v).map f))) ls := by
    intro xs
    induction xs with
    | nil =>
      intro acc _
      simp only [List.map_nil, List.filter_nil, List.append_nil]
      unfold lcL
      rw [if_pos hg]
    | cons x xs ih =>
      intro acc h
      simp at h
      rw [List.map_cons]
      unfold lcL
      rw [if_pos hg, htg]
      simp only [ht]
      cases hp : p x with
      | true =>
        obtain ⟨k, h1, h2⟩ := he x
        simp only [h1, h2]
        rw [if_pos (by omega), hw, ih _ (by simp; omega), List.filter_cons_of_pos hp]
        simp
      | false =>
        simp only []
        rw [hw, ih _ (by omega), List.filter_cons_of_neg (by rw [hp]; decide)]
  have := key xs [] (by simpa using hl)
  rw [List.nil_append] at this
  exact this
theorem lc_map {own : List Nat} {g : Gd} {tg : TgM} {el : M} {e : α → D} {f : γ → D} {v : α → γ} {E1 : α → LS} (hg : gOk g ls = true) (htg : ∀ x, tg (e x) ls = some (E1 x)) (hw : ∀ x, wipeL (E1 x) own = ls)
    (he : ∀ x, ∃ k, el (E1 x) = .ok k (E1 x) ∧ freezeK k (E1 x) = some (f (v x), E1 x)) (xs : List α) (hl : xs.length ≤ 1000000) :
    lcL own g tg (conM (.bl true)) el (xs.map e) ls [] = .ok (.own (eL f (xs.map v))) ls := by
  have := lc_pure (p := fun _ => true) hg htg hw (t := conM (.bl true)) (fun _ => rfl) he xs hl
  rw [show xs.filter (fun _ => true) = xs from List.filter_eq_self.mpr fun _ _ => rfl] at this
  exact this
end
section
variable {x y d : D} {v : D} {b : Bool}
def isnB : D → Bool
  | .non => true
  | _ => false
def slI : Option Slot → Option Int
  | some (.dat (.int i)) => some i
  | _ => none
def slS : Option Slot → Option Str
  | some (.dat (.str i)) => some i
  | _ => none
def slD' : Option Slot → Option D
  | some (.dat i) => some i
  | _ => none
theorem slS_ok {o : Option Slot} {i : Str} (h : slS o = some i) : o = some (.dat (.str i)) := by
  unfold slS at h
  split at h <;> first | (cases h; rfl) | cases h
def lenB (d : D) : Option Int := slI (lenD [d])
def ixB (x y : D) : Option D := slD' (ixD x y)
def reprB (d : D) : Option Str := slS (reprD [d])
theorem u_reprB {i : Str} (h : reprB d = some i) : reprD [d] = some (.dat (.str i)) := slS_ok h
theorem u_eqP' (h : eqP x y = some b) : eqD x y = some (.dat (.bl b)) := by simp only [eqD_ap, h, Option.map_some]
end
section
variable {α β γ δ κ ρ σ τ : Type} {ls ls1 ls2 ls3 ls4 : LS} {k k1 k2 k3 : Slot} {d d1 d2 x y : D} {a b m : M} {am : AM} {as : List Slot} {ds items : List D} {i j : Nat} {c c' : Bool} {xn : Exn} {sa sb : SM} {r r1 : S}
def Ctl.thnD (c : Ctl ρ Empty σ) (f : σ → Ctl ρ β τ) : Ctl ρ β τ := match c with
  | .nx s => f s
  | .ret r => .ret r
  | _ => .stk
@[simp] theorem Ctl.thnD_nx {s : σ} {f : σ → Ctl ρ β τ} : (Ctl.nx s : Ctl ρ Empty σ).thnD f = f s := rfl
@[simp] theorem Ctl.thnD_ret {r : ρ} {f : σ → Ctl ρ β τ} : (Ctl.ret r : Ctl ρ Empty σ).thnD f = .ret r := rfl
def mergeP [DecidableEq κ] (ps : List (κ × α)) : List (κ × α) := ps.foldl (fun acc p => putG acc p.1 p.2) []
theorem f_fz (h : sa ls = .nx ls1) : fzS i sa ls = .nx (frzV (.v i) ls1) := by simp only [fzS, h]
theorem f_fz0 (e : sa (frzV (.v i) ls) = r) : fz0 i sa ls = r := e
def Res.bindH (r : Res α) (f : α → Ctl ρ β σ) (h : Exn → Ctl ρ β σ) : Ctl ρ β σ := match r with
  | .ok a => f a
  | .err x => h x
  | .stk => .stk
@[simp] theorem Res.bindH_ok {a : α} {f : α → Ctl ρ β σ} {h} : (Res.ok a).bindH f h = f a := rfl
@[simp] theorem Res.bindH_err {x} {f : α → Ctl ρ β σ} {h} : (Res.err x).bindH f h = h x := rfl
theorem SimS.bindH {F : Fr ρ β} {E : σ → LS} {t : Res α} {c : α → Ctl ρ β σ} {h : Exn → Ctl ρ β σ} (he : ∀ x, t = .err x → SimS F E r (h x)) (ho : ∀ a, t = .ok a → SimS F E r (c a)) : SimS F E r (t.bindH c h) := by
  cases t with
  | ok a => exact ho a rfl
  | err x => exact he x rfl
  | stk => trivial
def selT (o : Option Bool) (a b : Ctl ρ β σ) : Ctl ρ β σ := match o with
  | some true => a
  | some false => b
  | none => .stk
@[simp] theorem selT_t {a b : Ctl ρ β σ} : selT (some true) a b = a := rfl
@[simp] theorem selT_f {a b : Ctl ρ β σ} : selT (some false) a b = b := rfl
theorem SimS.stk {F : Fr ρ β} {E : σ → LS} : SimS F E r (.stk : Ctl ρ β σ) := trivial
variable {cl : Cl} {cs : List Cl}
def xfB (x : Exn) (nm f : Str) : Option D := if x.name = nm then x.fs.lookup f else none
def slB : Option Slot → Option Bool
  | some (.dat (.bl i)) => some i
  | _ => none
def chO (o1 o2 : Option Slot) : Option Bool := match slB o1 with
  | some true => slB o2
  | some false => some false
  | none => none
theorem LcE.okI {f : γ → D} {E : σ → LS} {v : γ} {s' : σ} {r : R} (h1 : r = .ok k ls1) (h2 : freezeK k ls1 = some (f v, E s')) : LcE f E r (.ok (v, s')) := ⟨k, ls1, h1, h2⟩
theorem SimS.nxI {F : Fr ρ β} {E : σ → LS} {s : σ} (h : r = .nx ls) (e : ls = E s) : SimS F E r (.nx s) := by subst e; exact h
theorem lc_map2 {own : List Nat} {g : Gd} {tg : TgM} {el : M} {e : α → D} {f : γ → D} {v : α → γ} {E1 : α → LS} {xs : List α} (hg : gOk g ls = true) (htg : ∀ x, tg (e x) ls = some (E1 x)) (hw : ∀ x, wipeL (E1 x) own = ls)
    (he : ∀ x, ∃ k, el (E1 x) = .ok k (E1 x) ∧ freezeK k (E1 x) = some (f (v x), E1 x)) (hl : xs.length ≤ 1000000) :
    lcL own g tg (conM (.bl true)) el (xs.map e) ls [] = .ok (.own (eL f (xs.map v))) ls := lc_map hg htg hw he xs hl
theorem SimS.forL2 {E : σ → LS} {ps : LS} {Rk : ρ → Slot × LS} {Eb : β → LS} {g : Gd} {tg : TgM} {body : SM} {e : α → D} {b : α → σ → Ctl ρ σ σ} {xs : List α} {s : σ} (hg : ∀ s, gOk g (E s) = true)
    (hb : ∀ x s, ∃ ls1, tg (e x) (E s) = some ls1 ∧ SimS ⟨ps, Rk, E⟩ E (body ls1) (b x s)) : SimS ⟨ps, Rk, Eb⟩ E (VM.forL g tg body (xs.map e) (E s)) (forT b xs s) := SimS.forL hg hb xs s
theorem f_seq1 (h : sa ls = .nx ls1) : seqM sa sb ls = sb ls1 := by simp only [seqM_ap, h, Sb_nx]
theorem b_seq1 (p : r = .nx ls1) : r.bind sb = sb ls1 := by rw [p]; rfl
theorem nx_let {v x : α} {g : α → LS} (hn : v = x) (p : r = .nx (g v)) : r = .nx (g x) := by subst hn; exact p
theorem SimS.letV {F : Fr ρ β} {E : σ → LS} {v : α} {c : α → Ctl ρ β σ} (h : ∀ x, v = x → SimS F E r (c x)) : SimS F E r (VM.letC v c) := h v rfl
theorem f_fz2 (h : sa ls = .nx ls1) (e : frzV (.v i) ls1 = ls2) : fzS i sa ls = .nx ls2 := by subst e; exact f_fz h
theorem b_fga2 {ws : List Nat} (p : r = .nx ls1) (e : wipeL ls1 ws = ls2) : wipeS ws r = .nx ls2 := by subst e; exact b_fga p
end
section
variable {ls ls1 ls2 ls3 ls4 : LS} {k kv : Slot} {d x i i' : D} {om im vm : M} {j : Nat} {g : Int → Int → Int} {a b : Int}
end
def memB {α : Type} [DecidableEq α] (a : α) (xs : List α) : Bool := decide (a ∈ xs)
section
variable {α : Type} {f : α → D} {n : Nat} [DecidableEq α]
end
section
variable {ls ls1 ls2 : LS} {am : AM} {i j : Nat} {d1 d2 : D}
end
def wipeQ (ws : List Nat) : Nat → LS → LS
  | _, [] => []
  | n, s :: ls => (bif ws.elem n then .emp else s) :: wipeQ ws (n + 1) ls
theorem wipeQ_get (ws : List Nat) : ∀ (ls : LS) (n i : Nat), (wipeQ ws n ls)[i]? = (ls[i]?).map fun s => bif ws.elem (n + i) then .emp else s
  | [], n, i => by simp [wipeQ]
  | s :: ls, n, 0 => by simp [wipeQ]
  | s :: ls, n, i + 1 => by
    simp only [wipeQ, List.getElem?_cons_succ]
    rw [wipeQ_get ws ls (n + 1) i, show n + 1 + i = n + (i + 1) by omega]
theorem wipeL_get (ls : LS) (i : Nat) : ∀ ws : List Nat, (wipeL ls ws)[i]? = (ls[i]?).map fun s => bif ws.elem i then .emp else s
  | [] => by simp [wipeL]
  | w :: ws => by
    simp only [wipeL]
    by_cases h : w = i
    · subst h
      rw [List.getElem?_set]
      have := wipeL_get ls w ws
      cases e : ls[w]? with
      | none =>
        rw [e] at this
        have hn := List.getElem?_eq_none_iff.mp this
        simp only [if_true, Option.map_none]
        rw [if_neg (by omega)]
      | some s =>
        rw [e] at this
        have hn := (List.getElem?_eq_some_iff.mp this).1
        simp only [if_true, hn, Option.map_some, List.elem_cons, beq_self_eq_true, cond_true]
    · rw [List.getElem?_set_ne h, wipeL_get ls i ws]
      have : (i == w) = false := by simpa using fun z => h z.symm
      simp only [List.elem_cons, this]
theorem wipeQ_eq (ws : List Nat) (ls : LS) : wipeL ls ws = wipeQ ws 0 ls := List.ext_getElem? fun i => by
  rw [wipeL_get, wipeQ_get, Nat.zero_add]
section
variable {ls ls1 ls2 : LS} {sa : SM} {r : S} {ws : List Nat}
theorem b_fgq (p : r = .nx ls1) (e : wipeQ ws 0 ls1 = ls2) : wipeS ws r = .nx ls2 := b_fga2 p (by rw [wipeQ_eq]; exact e)
theorem f_fgtq (h : wipeQ ws 0 ls = ls1) (e : sa ls1 = r) : fgtS ws sa ls = r := f_fgt (by rw [wipeQ_eq]; exact h) e
end
section
variable {ls ls1 ls2 ls3 : LS} {k k1 : Slot} {m : M} {am : AM} {as : List Slot} {xn : Exn}
end
section
variable {α κ γ β : Type} [DecidableEq κ]
def dcS (t : α → Res Bool) (e : α → Res (κ × γ)) : List α → List (κ × γ) → Res (List (κ × γ))
  | [], acc => .ok acc
  | x :: xs, acc => match t x with
    | .ok true => (match e x with
      | .ok p => dcS t e xs (putG acc p.1 p.2)
      | _ => .stk)
    | .ok false => dcS t e xs acc
    | _ => .stk
def DcE (kf : κ → D) (vf : γ → D) (mk mv : M) (ls : LS) (t : Res (κ × γ)) : Prop := match t with
  | .ok p => ∃ k, mk ls = .ok (.dat (kf p.1)) ls ∧ mv ls = .ok k ls ∧ freezeK k ls = some (vf p.2, ls)
  | _ => True
theorem DcE.bindN {kf : κ → D} {vf : γ → D} {mk mv : M} {ls : LS} {t : Res β} {c : β → Res (κ × γ)} (ho : ∀ a, t = .ok a → DcE kf vf mk mv ls (c a)) : DcE kf vf mk mv ls (t.bindN c) := by
  cases t with
  | ok a => exact ho a rfl
  | err x => trivial
  | stk => trivial
theorem DcE.gd {kf : κ → D} {vf : γ → D} {mk mv : M} {ls : LS} {c : Res (κ × γ)} {p : Prop} [Decidable p] (h : p → DcE kf vf mk mv ls c) : DcE kf vf mk mv ls (gdR p c) := by
  by_cases hp : p
  · rw [gdR_pos hp]; exact h hp
  · unfold gdR; rw [if_neg hp]; trivial
theorem DcE.ite {kf : κ → D} {vf : γ → D} {mk mv : M} {ls : LS} {p : Bool} {c c' : Res (κ × γ)} (h1 : p = true → DcE kf vf mk mv ls c) (h2 : p = false → DcE kf vf mk mv ls c') : DcE kf vf mk mv ls (if p = true then c else c') := by
  cases p with
  | true => exact h1 rfl
  | false => exact h2 rfl
theorem DcE.okI {kf : κ → D} {vf : γ → D} {mk mv : M} {ls : LS} {p : κ × γ} {k : Slot} (h1 : mk ls = .ok (.dat (kf p.1)) ls) (h2 : mv ls = .ok k ls) (h3 : freezeK k ls = some (vf p.2, ls)) : DcE kf vf mk mv ls (.ok p) := ⟨k, h1, h2, h3⟩
end
theorem ok_cl (s : Str) : PyData.strOk s = (cl s).all (· < 0x110000) := by simp [PyData.strOk, cl]
theorem cl_ok {s : Str} (h : ∀ c ∈ cl s, c < 0x110000) : PyData.strOk s = true := by rw [ok_cl]; simpa using h
mutual
theorem sl_ok : ∀ {d : D}, d.gd = true → ∀ c ∈ sl (py d), c < 0x110000
  | .non, _, c, hc => by simp [py, sl_none] at hc; omega
  | .bl b, _, c, hc => by cases b <;> simp [py, sl_bool] at hc <;> omega
  | .int i, _, c, hc => by
    simp only [py, sl_int] at hc
    split at hc
    · rcases List.mem_cons.mp hc with rfl | z
      · decide
      · have := dg_mem z; omega
    · have := dg_mem hc; omega
  | .str s, h, c, hc => by
    simp [D.gd] at h
    simp [py, sl_str h.1.1] at hc
    have := h.1.2
    rw [ok_cl] at this
    rcases hc with rfl | z | rfl
    · decide
    · have := List.all_eq_true.mp this c z; simpa using this
    · decide
  | .lst ds, h, c, hc => by
    simp [py, sl_list] at hc
    rcases hc with rfl | z | rfl
    · decide
    · exact jl_ok (ds := ds) (by simpa [D.gd] using h) c z
    · decide
  | .tup ds, h, c, hc => by
    simp only [py, sl_tuple] at hc
    rcases List.mem_cons.mp hc with rfl | z
    · decide
    · rcases List.mem_append.mp z with z | z
      · exact jl_ok (ds := ds) (by simpa [D.gd] using h) c z
      · split at z <;> simp at z <;> omega
  | .dK _, h, _, _ => by simp [D.gd] at h
  | .dT _, h, _, _ => by simp [D.gd] at h
  | .ins _ _, h, _, _ => by simp [D.gd] at h
  | .scr _, h, _, _ => by simp [D.gd] at h
  | .ktup _, h, _, _ => by simp [D.gd] at h
  | .exc _ _, h, _, _ => by simp [D.gd] at h
theorem jl_ok : ∀ {ds : List D}, D.gds ds = true → ∀ c ∈ jl (pys ds), c < 0x110000
  | [], _, c, hc => by simp [pys, jl_nil] at hc
  | [d], h, c, hc => by
    simp [D.gds] at h
    simp [pys, jl_one] at hc
    exact sl_ok h c hc
  | d :: e :: ds, h, c, hc => by
    rw [D.gds, Bool.and_eq_true] at h
    rw [pys, pys, jl_cons] at hc
    rcases List.mem_append.mp hc with z | z
    · exact sl_ok h.1 c z
    · rcases List.mem_cons.mp z with rfl | z
      · decide
      · rcases List.mem_cons.mp z with rfl | z
        · decide
        · exact jl_ok (ds := e :: ds) h.2 c (by rw [pys]; exact z)
end
theorem shD_ok {d : D} (h : d.gd = true) : PyData.strOk (shD d) = true := cl_ok (sl_ok h)
theorem reprB_gd {d : D} (h : d.gd = true) (hw : d.wt ≤ 1000000) (hd : d.dp ≤ 50) : reprB d = some (shD d) := by
  simp only [reprB, reprD_gd h hw hd, slS]
end VM
namespace VM
open PySem PySem.Spec PySem.Calls PyProof.Rows L2
section
variable {ls ls1 ls2 ls3 : LS} {k k1 k2 : Slot} {a b : M} {xn : Exn} {d : D} {i : Int}
def eE2 {α β : Type} (f : α → D) (g : β → D) (x : α × β) : D := .lst [f x.1, g x.2]
def eE3 {α β γ : Type} (f : α → D) (g : β → D) (h : γ → D) (x : α × β × γ) : D := .lst [f x.1, g x.2.1, h x.2.2]
def eE4 {α β γ δ : Type} (f : α → D) (g : β → D) (h : γ → D) (j : δ → D) (x : α × β × γ × δ) : D := .lst [f x.1, g x.2.1, h x.2.2.1, j x.2.2.2]
end
end VM
set_option maxHeartbeats 400000
namespace PyProof.Rows
open PySem PySem.Calls
section
variable {prog : Program} {w : World} {A : Around} {E : Value → Shared → Prop} {s : Shared}
end
end PyProof.Rows
namespace VM
open PySem PySem.Spec PySem.Calls PyProof.Rows L2
section
variable {X : Cx} {B : Base} {W : WX} {e : Expr} {te : TE} {m : M} {k : Nat} {p1 p2 p3 pos : Pos}
def tRevX (K : PySem.W.Frag) (te : TE) : TE := fun σ H Q => te σ H fun x H1 => (∃ a xs, x = .ref a ∧ SqL K H1 a xs ∧ ∀ p, H1 p = none → Q (.ref p) (upd H1 p (.lst xs.reverse))) ∨
  (∃ a xs, x = .ref a ∧ SqT K H1 a xs ∧ ∀ p, H1 p = none → Q (.ref p) (upd H1 p (.tup xs.reverse)))
def revX (m : M) : M := fun ls => (m ls).bind fun k ls => match look ls k with
  | some (.lst ds) => .ok (.own (.lst ds.reverse)) ls
  | some (.tup ds) => .ok (.dat (.tup ds.reverse)) ls
  | _ => .stk
end
section
variable {ls ls1 : LS} {k : Slot} {m : M} {ds : List D} {xn : Exn}
end
section
variable {α : Type}
def tupB : D → Option (List D)
  | .tup ds => some ds
  | _ => none
def jkB : D × D → Option (Int × Int)
  | (.int a, .int b) => some (a, b)
  | _ => none
end
end VM
set_option maxHeartbeats 2000000
namespace VM
open PySem PySem.Spec PySem.Calls PyProof.Rows L2
section
variable {X : Cx} {k : Nat} {f C : Addr} {fd : FuncData} {ps : List Str} {sp : Sp} {pins : List (Addr × Obj)} {σ : L2.St} {H : Hp} {s : Shared} {Q : VK} {us : List Value} {vs : List V}
end
section
variable {X : Cx} {B : Base} {W : WX} {a b e : Expr} {ma mb : M} {am : AM} {k : Nat} {f C : Addr} {fd : FuncData} {ps : List Str} {g : List Slot → RF} {xs : List Str} {pos p : Pos} {ok : D → Bool}
end
end VM
namespace VM
open PySem PySem.Spec L2
section
variable {ls ls1 ls2 : LS} {a b : M} {k1 k2 : Slot} {x y : D} {c : Bool}
end
end VM
set_option maxHeartbeats 1000000
namespace VM
open PySem PySem.Spec L2 PyProof.Rows
def PostO (G : Cfg) (W : WX) (σ : L2.St) (vs : List V) (ks : List Slot) (r : RI) (C : It → Hp → Prop) : Prop := match r with
  | .ok items g ls' => ∀ J gvs gks F' H', gvs.length = gks.length → Rp G F' H' σ ls' (gvs ++ vs) (gks ++ ks) → WalkD G J items gvs gks g → C J H'
  | .err x ls' => ∀ cls d F' H', Rp G F' H' σ ls' vs ks → ErrRel G F' cls d x → W cls d σ H'
  | .stk => False
def tIO (G : Cfg) (W : WX) (m : IM) : TI := fun σ H C => ∃ F ls vs ks, Rp G F H σ ls vs ks ∧ PostO G W σ vs ks (m ls) C
section
variable {X : Cx} {B : Base} {W : WX} {im : IM} {t : TgM} {mt me : M} {own is : List Nat}
variable {elt tg iter c : Expr} {scope : Scope} {ow : List (Str × Nat)} {pos : Pos}
end
def liveO (k : Slot) (ls : LS) : Option (Nat × List D) := match k with
  | .ali j => (match ls[j]? with
    | some (.own (.lst ds)) => some (j, ds)
    | _ => none)
  | _ => none
def gO (j : Nat) (ds : List D) : Gd := some (j, .ins "@" [("@", .lst ds)])
def seqO (m : M) : IM := fun ls => match m ls with
  | .ok k ls => (match liveO k ls with
    | some (j, ds) => .ok ds (gO j ds) ls
    | none => .stk)
  | .err x ls => .err x ls
  | .stk => .stk
section
variable {X : Cx} {B : Base} {W : WX} {m : M} {e tgt : Expr}
end
section
variable {ls ls1 : LS} {m : M} {j : Nat} {ds : List D}
end
end VM
namespace VM
open PySem PySem.Spec L2
section
variable {ls ls1 ls2 : LS} {a b : M} {k1 k2 : Slot} {xn : Exn} {ds : List D}
end
end VM
set_option maxHeartbeats 400000
namespace VM
open PySem PySem.Spec PySem.Calls PyProof.Rows L2
section
variable {X : Cx} {B : Base} {W : WX} {a b : Expr} {pos : Pos} {C f C2 f2 : Addr} {fd fd2 : FuncData} {pn pn2 : List Str} {sp sp2 : Sp} {k k2 : Nat} {ta tb : TE} {E : L2.St → XK} {am bm : M} {xs ys : List Str} {g g2 : List Slot → RF} {CX : CXT} {op : Operator}
def rBinT2 (C C2 : Addr) (sp sp2 : Sp) (E : XK) : R2 := fun x y H Q => rBinC C sp E x y H Q ∨ rBinC C2 sp2 E x y H Q
def tBinT2 (C C2 : Addr) (sp sp2 : Sp) (E : L2.St → XK) (ta tb : TE) : TE := fun σ H Q => tOp (rBinT2 C C2 sp sp2 (E σ)) ta tb σ H Q
def binT2 (xs : List Str) (f : List Slot → RF) (ys : List Str) (g : List Slot → RF) (am bm : M) : M := fun ls => (am ls).bind fun k1 ls => (bm ls).bind fun k2 ls => match look ls k1, look ls k2 with
  | some (.ins y _), some (.ins y2 _) => if y ∈ xs ∧ y2 ∈ xs then callK f [k1, k2] ls else if y ∈ ys ∧ y2 ∈ ys then callK g [k1, k2] ls else .stk
  | _, _ => .stk
end
section
variable {ls ls1 ls2 : LS} {a b : M} {k1 k2 k : Slot} {xn : Exn} {ds : List D} {xs ys : List Str} {f g : List Slot → RF} {y y2 : Str} {gs gs2 : List (Str × D)}
end
@[irreducible] def lenOk (n : Int) : Bool := decide (0 ≤ n ∧ n < 2 ^ 63)
end VM
namespace VM
open PySem PySem.Spec PyProof.Rows L2
def popA : D → List D → Option (D × D)
  | .lst xs, [.int i] => if 0 ≤ i ∧ i < 2 ^ 63 then (match xs[i.toNat]? with
    | some d => some (.lst (xs.eraseIdx i.toNat), d)
    | none => none) else none
  | _, _ => none
def intsB : List D → Option (List Int)
  | [] => some []
  | .int i :: ds => (intsB ds).map (i :: ·)
  | _ :: _ => none
def rkB : D → Option (List Int)
  | .tup ds => intsB ds
  | _ => none
section
variable {ls ls1 ls2 : LS} {a b : M} {k1 k2 : Slot} {xn : Exn} {ds : List D}
end
end VM
namespace VM
open PySem PySem.Spec L2
def jdB : D → Option (Int × Int)
  | .tup [.int a, .int b] => some (a, b)
  | _ => none
def itB : D → Option Int
  | .int i => some i
  | _ => none
@[irreducible] def rngOk (n : Int) : Bool := inR n
end VM
set_option maxHeartbeats 4000000
namespace VM
open PySem PySem.Spec L2 PyProof.Rows
def trM (m : M) : M := fun ls => (m ls).bind fun k ls => match k with
  | .dat (.int j) => if 0 ≤ j ∧ j ≤ 1000000 then .ok (.dat (.tup (rangeD 0 j.toNat))) ls else .stk
  | _ => .stk
section
variable {X : Cx} {B : Base} {W : WX} {a e o : Expr} {es : List Expr} {m om : M} {am : AM} {pos p p2 q2 : Pos}
end
section
variable {X : Cx} {CX : CXT} {k n : Nat} {g C q : Addr} {fd : FuncData} {pn : List Str} {sp : Sp} {E : L2.St → XK} {x m : Str} {p pos apos : Pos} {e o : Expr} {es : List Expr} {t : TA} {ta : TE}
def tSMet (C : Addr) (zs : List V) (sp : Sp) (E : L2.St → XK) (ta : TE) (t : TA) : TE := fun σ H Q => ta σ H fun x H1 => x = .ref C ∧ t σ H1 fun vs H2 => sp (vs ++ zs) H2 Q (E σ)
end
section
variable {X : Cx} {B : Base} {W : WX} {k n : Nat} {f C q : Addr} {fd : FuncData} {pn : List Str} {x m : Str} {p pos apos : Pos} {e o : Expr} {es : List Expr} {am : AM} {g : List Slot → RF}
end
def rIn0 (K : PySem.W.Frag) : R2 := fun x y H Q => ∃ p, y = .ref p ∧ SqT K H p [] ∧ Q (.bl false) H
def in0D (x y : D) : Option Slot := match y with
  | .ktup [] => some (.dat (.bl false))
  | y => inD x y
end VM
set_option maxHeartbeats 2000000
namespace L2
open PySem PySem.Spec PyProof.Rows
def wTup (K : PySem.W.Frag) (Wout : WX) (D : Ends) (cs : List Value) (ts : Addr → Value → Option Addr → TS) : WX := fun cls d σ H => ∃ b, PySem.W.exmAny K cls cs = some b ∧ (b = true → ∀ a, H a = none → ts a cls d D σ H) ∧ (b = false → Wout cls d σ H)
section
variable {X : Cx} {body : List Stmt} {pos : Pos} {tb : WX → TS} {Wout : WX}
end
end L2
namespace VM
open PySem PySem.Spec L2
def ct3 (a b c : Str → Option Bool) (y : Str) : Option Bool := (a y).bind fun x => (b y).bind fun z => (c y).map fun w => x || (z || w)
section
variable {X : Cx} {B : Base} {W : WX} {sa : SM} {sts : List Stmt} {pos : Pos}
end
end VM
namespace VM
open PySem PySem.Spec PyProof.Rows L2
def rCountI : V → List V → Hp → VK → Prop := fun x vs H Q => ∃ (l : Addr) (ns : List Int) (k : Int), x = .ref l ∧ vs = [.int k] ∧ H l = some (.lst (ns.map V.int)) ∧ Q (.int (ns.count k : Nat)) H
def countA : D → List D → Option (D × D)
  | .lst xs, [.int k] => (intsD xs).map fun ns => (.lst xs, .int (ns.count k : Nat))
  | _, _ => none
def sortI (ns : List Int) : List Int := ns.mergeSort fun a b => decide (a ≤ b)
def sortID : List D → Option Slot
  | [.lst ds] => (intsD ds).map fun ns => .own (.lst ((sortI ns).map D.int))
  | _ => none
def splC {α ρ β σ : Type} (o : Option α) (a : Ctl ρ β σ) (b : α → Ctl ρ β σ) : Ctl ρ β σ := match o with
  | none => a
  | some v => b v
section
variable {a b : M} {ls ls1 ls2 : LS} {c : Bool} {xn : Exn}
end
section
variable {K : PySem.W.Frag}
abbrev Mv := Int × Int × Int
abbrev MvLay := List ((Int × Int) × Addr × List (Addr × Mv))
structure TreeR (H : Hp) (p : Addr) (es : MvLay) : Prop where
  top : H p = some (HO.dT (es.map fun e => ((([.inl e.1.1, .inl e.1.2] : List Key), V.ref e.2.1) : List Key × V)))
  rows : ∀ e ∈ es, H e.2.1 = some (.lst (e.2.2.map fun q => V.ref q.1)) ∧ e.2.2.length ≤ 100000
  leaf : ∀ e ∈ es, ∀ q ∈ e.2.2, H q.1 = some (.lst [.int q.2.1, .int q.2.2.1, .int q.2.2.2])
theorem TreeR.mono {H H' : Hp} {p : Addr} {es : MvLay} (T : TreeR H p es) (x : ∀ b o, H b = some o → H' b = some o) : TreeR H' p es :=
  ⟨x _ _ T.top, fun e he => ⟨x _ _ (T.rows e he).1, (T.rows e he).2⟩, fun e he q hq => x _ _ (T.leaf e he q hq)⟩
def stepE (es : MvLay) (b c : Int) : Option (Addr × Mv) := (getG es (b, c)).bind fun e => e.2.find? fun q => decide (0 < q.2.2.2)
def walkE (es : MvLay) (last : Int) : Nat → Int → Int → Option (List (Addr × Mv))
  | 0, b, _ => if b = last then some [] else none
  | n + 1, b, c => if b = last then some [] else (stepE es b c).bind fun q => (walkE es last n q.2.1 q.2.2.1).map (q :: ·)
def wIx (K : PySem.W.Frag) (a b : TE) : TE := L2.tOp (rIxU K) a b
def rInt1 : List V → Hp → VK → Prop := fun xs H Q => (∃ i, xs = [.int i] ∧ Q (.int i) H) ∨ ∃ k, xs = [.bl k] ∧ Q (.int (if k then 1 else 0)) H
def rTupO (K : PySem.W.Frag) : List V → Hp → VK → Prop := fun xs H Q => ∃ p ys, xs = [.ref p] ∧ ((SqL K H p ys ∧ ∀ l, H l = none → Q (.ref l) (upd H l (.tup ys))) ∨ (SqT K H p ys ∧ Q (.ref p) H))
def tkMove (K : PySem.W.Frag) : TE := wIx K (tLc (iList K (wIx K (tVar 0) (tTup (tCons (tVar 2) (tCons (tVar 3) tNil))))) (gName 8) (tTest (L2.tOp (rI0 fun i j => .bl (decide (j < i))) (wIx K (tVar 8) (tC (.int 2))) (tC (.int 0)))) (tVar 8) [8]) (tC (.int 0))
def tkBody (K : PySem.W.Frag) : TS := tSeq (tAsg (tkMove K) (gName 6)) (tSeq (tDrop (tBM K "list" rAppend (tVar 5) (tCons (tVar 6) tNil))) (tSeq (tAsg (wIx K (tVar 6) (tC (.int 0))) (gName 2)) (tSeq (tAsg (wIx K (tVar 6) (tC (.int 1))) (gName 3)) (tDrop (tBM K "list" rAppend (tVar 4) (tCons (tVar 2) tNil))))))
def tkMin (K : PySem.W.Frag) : TE := tCB (rMin K) (tCons (tLc (iList K (tVar 5)) (gName 6) tYes (tCB rInt1 (tCons (wIx K (tVar 6) (tC (.int 2))) tNil)) [6]) tNil)
def tkTS (K : PySem.W.Frag) : TS := tSeq (tAsg (tC (.int 0)) (gName 2)) (tSeq (tAsg (tC (.int 0)) (gName 3)) (tSeq (tAsg (tLst (tCons (tC (.int 0)) tNil)) (gName 4)) (tSeq (tAsg (tLst tNil) (gName 5))
  (tSeq (tWhile (tTest (L2.tOp (rNeD K) (tVar 2) (tVar 1))) (tkBody K)) (tSeq (tAsg (tkMin K) (gName 7)) (tSeq (tFor (iList K (tVar 5)) (gName 6) (tAugS (tVar 6) (tC (.int 2)) (tVar 7) (rIxL K) (ipI fun i j => i - j) rSetL))
  (tRet (tTup (tCons (tCB (rTupO K) (tCons (tVar 4) tNil)) (tCons (tVar 7) tNil)))))))))) 
def st9 (p : Addr) (last : Int) (b c bl tk mv tm : Option V) : L2.St := [some (.ref p), some (.int last), b, c, bl, tk, mv, tm, none]
def amtP (picks : List (Addr × Mv)) (v : V) : Int := match v with
  | .ref a => ((picks.find? fun q => decide (q.1 = a)).map fun q => q.2.2.2).getD 0
  | _ => 0
def decP (H : Hp) (qs : List (Addr × Mv)) (t : Int) : Hp := qs.foldl (fun H q => upd H q.1 (.lst [.int q.2.1, .int q.2.2.1, .int (q.2.2.2 - t)])) H
def spTk : Sp := fun vs H Q _ => ∃ (p : Addr) (last : Int) (es : MvLay) (n : Nat) (picks : List (Addr × Mv)) (t : Int), vs = [.ref p, .int last] ∧ TreeR H p es ∧ walkE es last n 0 0 = some picks ∧ (picks.map (·.1)).Nodup ∧ picks.length ≤ 100000 ∧
  t ∈ picks.map (fun q => q.2.2.2) ∧ (∀ y ∈ picks.map (fun q => q.2.2.2), t ≤ y) ∧
  ∀ H' r q, H q = none → H r = none → q ≠ r → H' q = some (.tup [.ref r, .int t]) → H' r = some (.tup ((0 :: picks.map fun q => q.2.1).map V.int)) → (∀ y o, H y = some o → y ∉ picks.map (·.1) → H' y = some o) →
    (∀ q ∈ picks, H' q.1 = some (.lst [.int q.2.1, .int q.2.2.1, .int (q.2.2.2 - t)])) → Q (.ref q) H'
end
abbrev Mvs := List ((Int × Int) × List Mv)
def lfD (m : Mv) : D := .lst [.int m.1, .int m.2.1, .int m.2.2]
def encL (l : List Mv) : T := .lst (l.map fun m => .fl (lfD m))
def kyM (k : Int × Int) : List Key := [.inl k.1, .inl k.2]
def encM (ms : Mvs) : T := .dt (ms.map fun e => (kyM e.1, encL e.2))
def adrs (es : MvLay) : List Addr := es.flatMap fun e => e.2.1 :: e.2.2.map (·.1)
def msOf (es : MvLay) : Mvs := es.map fun e => (e.1, e.2.2.map (·.2))
section
variable {G : Cfg} {F H : Hp}
end
section
variable {G : Cfg} {F F' H H' : Hp} {σ : L2.St} {ls : LS} {vs : List V} {ks : List Slot} {i : Nat} {t t' : T} {x : V}
end
def pos_ (m : Mv) : Bool := decide (0 < m.2.2)
def walkP (ms : Mvs) (last : Int) : Nat → Int → Int → Option (List ((Int × Int) × Mv))
  | 0, b, _ => if b = last then some [] else none
  | n + 1, b, c => if b = last then some [] else ((getG ms (b, c)).bind fun l => l.find? pos_).bind fun m => (walkP ms last n m.1 m.2.1).map (((b, c), m) :: ·)
def decF (t : Int) : List Mv → List Mv
  | [] => []
  | m :: r => if pos_ m = true then (m.1, m.2.1, m.2.2 - t) :: r else m :: decF t r
def decMs (t : Int) (ks : List (Int × Int)) (ms : Mvs) : Mvs := ms.map fun e => if e.1 ∈ ks then (e.1, decF t e.2) else e
def walkK (es : MvLay) (last : Int) : Nat → Int → Int → Option (List ((Int × Int) × Addr × Mv))
  | 0, b, _ => if b = last then some [] else none
  | n + 1, b, c => if b = last then some [] else (stepE es b c).bind fun q => (walkK es last n q.2.1 q.2.2.1).map (((b, c), q) :: ·)
def decFA (t : Int) : List (Addr × Mv) → List (Addr × Mv)
  | [] => []
  | q :: r => if pos_ q.2 = true then (q.1, q.2.1, q.2.2.1, q.2.2.2 - t) :: r else q :: decFA t r
def decEs (t : Int) (ks : List (Int × Int)) (es : MvLay) : MvLay := es.map fun e => if e.1 ∈ ks then (e.1, e.2.1, decFA t e.2.2) else e
def decLf : T → Option Mv
  | .fl (.lst [.int a, .int b, .int c]) => some (a, b, c)
  | _ => none
def decLs : List T → Option (List Mv)
  | [] => some []
  | t :: ts => (decLf t).bind fun m => (decLs ts).map (m :: ·)
def decEn : List (List Key × T) → Option Mvs
  | [] => some []
  | ([.inl b, .inl c], .lst ts) :: r => (decLs ts).bind fun l => (decEn r).map (((b, c), l) :: ·)
  | _ => none
def decM : T → Option Mvs
  | .dt es => decEn es
  | _ => none
def okMs (ms : Mvs) : Bool := decide (ms.map (·.1)).Nodup && ms.all fun e => decide (e.2.length ≤ 100000)
def takenP (ms : Mvs) (last : Int) : Option (List Int × Int × Mvs) :=
  if okMs ms = true then (walkP ms last (ms.length + 1) 0 0).bind fun ps =>
    if (decide (ps.map (·.1)).Nodup && decide (ps.length ≤ 100000)) = true then (leastI (ps.map fun p => p.2.2.2)).map fun t => (0 :: ps.map (fun p => p.2.1), t, decMs t (ps.map (·.1)) ms) else none
  else none
def takenK (as : List Slot) (ls : LS) : R := match as with
  | [.ali i, .dat (.int last)] => (match ls[i]? with
    | some (.tre t) => (match decM t with
      | some ms => (match takenP ms last with
        | some r => .ok (.dat (.tup [.tup (r.1.map .int), .int r.2.1])) (ls.set i (.tre (encM r.2.2)))
        | none => .stk)
      | none => .stk)
    | _ => .stk)
  | _ => .stk
def takenM (am : AM) : M := fun ls => (am ls).bind takenK
section
variable {X : Cx} {B : Base} {W : WX} {k : Nat} {f : Addr} {fd : FuncData} {pn : List Str} {x : Str} {p pos : Pos} {e : Expr} {es : List Expr} {am : AM}
end
section
variable {G : Cfg} {F H H' : Hp} {σ : L2.St} {ls : LS} {vs : List V} {ks : List Slot} {i : Nat} {t t' : T} {x : V}
end
def growP (ms : Mvs) (k : Int × Int) (m : Mv) : Mvs := putG ms k ((getG ms k).getD [] ++ [m])
def tKey (jb jc : Nat) : TE := tTup (tCons (tVar jb) (tCons (tVar jc) tNil))
def growTS (K : PySem.W.Frag) (i jb jc jo jl jm : Nat) : TS := tAsg (L2.tOp (rAddU K) (tDGet2 (tVar i) (tKey jb jc) (tLst tNil)) (tLst (tCons (tLst (tCons (tVar jo) (tCons (tVar jl) (tCons (tVar jm) tNil)))) tNil))) (gSub (tVar i) (tKey jb jc) rSetU)
def dI (ls : LS) (j : Nat) : Option Int := match ls[j]? with
  | some (.dat (.int v)) => some v
  | _ => none
def growS (i jb jc jo jl jm : Nat) : SM := fun ls => match ls[i]?, dI ls jb, dI ls jc, dI ls jo, dI ls jl, dI ls jm with
  | some (.tre t), some b, some c, some o, some l, some m => (match decM t with
    | some ms => if (okMs ms && decide (ms.length < 1000000)) = true then .nx (ls.set i (.tre (encM (growP ms (b, c) (o, l, m))))) else .stk
    | none => .stk)
  | _, _, _, _, _, _ => .stk
section
variable {G : Cfg} {W : WX} {F H : Hp} {σ : L2.St} {ls : LS} {vs : List V} {ks : List Slot} {K : PySem.W.Frag}
end
section
variable {G : Cfg} {F F' H H' : Hp} {σ : L2.St} {ls ls' : LS} {vs ws : List V} {ks as ps ps' : List Slot} {i : Nat} {t : T} {v : V}
end
def treM (t : T) : M := fun ls => .ok (.tre t) ls
section
variable {X : Cx} {B : Base} {W : WX} {pos : Pos}
end
section
variable {K : PySem.W.Frag} {mg : Str → Option Value} {F F' H H' : Hp} {Wp : Addr → Prop} {σ : L2.St} {ls ls' : LS} {vs : List V} {ps ps' : List Slot} {v : V} {k k' : Slot} {N : List Str}
def finFT (ps : List Slot) (r : S) : RF := match r with
  | .ret (.ali j) ls => (match ls[j]? with
    | some (.tre t) => (match outs ps (ls.set j .emp) with
      | some ps' => .ok (.tre t) ps'
      | none => .stk)
    | _ => .stk)
  | .err x ls => (match outs ps ls with
    | some ps' => .err x ps'
    | none => .stk)
  | _ => .stk
def funMT (n : Nat) (b : SM) : List Slot → RF := fun ps => finFT ps (b (startLS n ps))
end
def callKT (f : List Slot → RF) (as : List Slot) (ls : LS) : R := if (alis as).Nodup then (match hands ls as with
  | some ps => (match f ps with
    | .ok (.tre t) ps' => (match backs as ps' ls with
      | some ls' => .ok (.tre t) ls'
      | none => .stk)
    | .err x ps' => (match backs as ps' ls with
      | some ls' => .err x ls'
      | none => .stk)
    | _ => .stk)
  | none => .stk) else .stk
def callNT (n : Nat) (f : List Slot → RF) (am : AM) : M := fun ls => (am ls).bind fun as ls => if as.length = n then callKT f as ls else .stk
section
variable {X : Cx} {B : Base} {W : WX} {k n : Nat} {f : Addr} {fd : FuncData} {pn : List Str} {x : Str} {p pos : Pos} {e : Expr} {es : List Expr} {am : AM} {g : List Slot → RF}
end
def ltK (n : Int) : List Key → Bool
  | [.inl _, .inl b] => decide (b < n)
  | _ => false
def prK : List Key → Bool
  | [.inl _, .inl _] => true
  | _ => false
def insF (n : Int) (es : List (List Key × D)) : List (List Key × D) := es.foldl (fun acc e => if ltK n e.1 = true then putG acc e.1 (.bl true) else acc) []
def insV (n : Int) (kvs : List (List Key × V)) : List (List Key × V) := kvs.foldl (fun acc e => if ltK n e.1 = true then putK acc e.1 (.bl true) else acc) []
def insTS (K : PySem.W.Frag) (i j b v : Nat) : TS := tLock (tAsg (tDcG (.dT []) (iKeys (tVar i)) (gName v) (tTest (L2.tOp (rI0 fun x y => .bl (decide (x < y))) (wIx K (tVar v) (tC (.int 1))) (tVar b))) (tVar v) (tC (.bl true)) [v]) (gName j))
def insS (i j b v : Nat) : SM := fun ls => match ls[i]?, dI ls b with
  | some (.own (.dT es)), some n => if (es.all (fun e => prK e.1) && decide (es.length < 1000000) && (decide (v < ls.length) && decide (b ≠ v))) = true then asgK j (.own (.dT (insF n es))) ls else .stk
  | _, _ => .stk
section
variable {X : Cx} {B : Base} {W : WX} {y : Str} {py pos spos : Pos} {kx vx tg iter c : Expr} {scope : Scope} {ow : List (Str × Nat)}
end
end VM
namespace VM
open PySem PySem.Spec L2
def insT (n : Int) (es : List ((Int × Int) × Int)) : List ((Int × Int) × Bool) := (es.filter fun e => decide (e.1.2 < n)).foldl (fun acc e => putG acc e.1 true) []
def RE (b b' R : SM) : Prop := ∀ ls, b ls = (b' ls).bind R
section
variable {β σ ρ : Type}
def Ctl.resE (c : Ctl Empty β σ) (h : σ → Res ρ) : Res ρ := match c with
  | .nx s => h s
  | .err x => .err x
  | _ => .stk
end
end VM
set_option maxHeartbeats 4000000
namespace VM
open PySem PySem.Spec L2 PyProof.Rows
def appK (am : AM) (m : M) : AM := fun ls => match am ls with
  | .ok as ls => (match m ls with
    | .ok k ls => .ok (as ++ [k]) ls
    | .err x ls => .err x ls
    | .stk => .stk)
  | .err x ls => .err x ls
  | .stk => .stk
section
variable {X : Cx} {CX : CXT} {k n : Nat} {g C q : Addr} {fd : FuncData} {pn ks : List Str} {sp : Sp} {E : L2.St → XK} {x m : Str} {p pos apos : Pos} {e o : Expr} {es : List Expr} {kws : List Keyword} {t tk : TA} {ta : TE}
def tSMetK (C : Addr) (nn : Nat) (ks : List Str) (sp : Sp) (E : L2.St → XK) (ta : TE) (t tk : TA) : TE := fun σ H Q => ta σ H fun x H1 => x = .ref C ∧ t σ H1 fun vs H2 => tk σ H2 fun zs H3 => vs.length = nn ∧ zs.length = ks.length ∧ sp (vs ++ zs) H3 Q (E σ)
end
section
variable {X : Cx} {B : Base} {W : WX} {k n nn : Nat} {f C q : Addr} {fd : FuncData} {pn : List Str} {x m ky : Str} {p pos apos kp : Pos} {e o v : Expr} {es : List Expr} {am : AM} {mm : M} {g : List Slot → RF} {kws : List Keyword}
end
end VM
set_option maxHeartbeats 1000000
namespace VM
open PySem PySem.Spec L2
mutual
def D.nd : D → Bool
  | .lst xs => D.nds xs
  | .tup xs => D.nds xs
  | .ktup xs => D.nds xs
  | .ins _ gs => D.ndf gs
  | .dK _ => false
  | .dT _ => false
  | .exc _ _ => false
  | _ => true
def D.nds : List D → Bool
  | [] => true
  | d :: ds => d.nd && D.nds ds
def D.ndf : List (Str × D) → Bool
  | [] => true
  | (_, d) :: ds => d.nd && D.ndf ds
end
def D.ndt : List (List Key × D) → Bool
  | [] => true
  | (_, d) :: ds => d.nd && D.ndt ds
section
variable {K : PySem.W.Frag} {mg : Str → Option Value} {F F' : Hp} {p : Addr} {u : HO} (hF : ∀ a, a ≠ p → F' a = F a) (hp : F p = some u) (hu : isDc u)
include hF hp hu
theorem drop_at {a : Addr} {o : HO} (h : F a = some o) (h1 : ¬ isDc o) : F' a = some o := by
  rw [hF a fun z => by subst z; rw [hp] at h; cases h; exact h1 hu]; exact h
theorem drop_rd {a : Addr} {o : HO} (h : Rd F a o) (h1 : ¬ isDc o) : Rd F' a o := by
  rcases h with h | ⟨ob, h⟩
  · exact .inl (drop_at hF hp hu h h1)
  · exact .inr ⟨ob, drop_at hF hp hu h (fun z => z)⟩
mutual
theorem DD.drp : ∀ {d : D} {v : V}, DD K mg F d v → d.nd = true → DD K mg F' d v
  | _, _, .non, _ => .non
  | _, _, .bl b, _ => .bl b
  | _, _, .int b, _ => .int b
  | _, _, .str b, _ => .str b
  | _, _, .scr h, _ => .scr (h.imp (fun z => drop_rd hF hp hu z fun z => z) id)
  | _, _, .lst h r, e => .lst (drop_at hF hp hu h fun z => z) (DDs.drp r (by simpa only [D.nd] using e))
  | _, _, .tup h r, e => .tup (drop_at hF hp hu h fun z => z) (DDs.drp r (by simpa only [D.nd] using e))
  | _, _, .ktup h r, e => .ktup (h.imp (fun z => drop_rd hF hp hu z fun z => z) id) (DDs.drp r (by simpa only [D.nd] using e))
  | _, _, .dk h r, e => by simp [D.nd] at e
  | _, _, .dt h r, e => by simp [D.nd] at e
  | _, _, .exc _ _ _ _, e => by simp [D.nd] at e
  | _, _, .ins m h r, e => .ins m (drop_at hF hp hu h fun z => z) (DDf.drp r (by simpa only [D.nd] using e))
theorem DDs.drp : ∀ {d : List D} {v : List V}, DDs K mg F d v → D.nds d = true → DDs K mg F' d v
  | _, _, .nil, _ => .nil
  | _, _, .cons h r, e => by
    simp only [D.nds, Bool.and_eq_true] at e
    exact .cons (DD.drp h e.1) (DDs.drp r e.2)
theorem DDf.drp : ∀ {d : List (Str × D)} {v : List (Str × V)}, DDf K mg F d v → D.ndf d = true → DDf K mg F' d v
  | _, _, .nil, _ => .nil
  | _, _, .cons h r, e => by
    simp only [D.ndf, Bool.and_eq_true] at e
    exact .cons (DD.drp h e.1) (DDf.drp r e.2)
end
theorem DDt.drp : ∀ {d : List (List Key × D)} {v : List (List Key × V)}, DDt K mg F d v → D.ndt d = true → DDt K mg F' d v
  | _, _, .nil, _ => .nil
  | _, _, .cons h r, e => by
    simp only [D.ndt, Bool.and_eq_true] at e
    exact .cons (DD.drp hF hp hu h e.1) (DDt.drp r e.2)
end
def thK (k k2 : Slot) : Option Slot := match k, k2 with
  | .dat d, _ => some (.dat d)
  | .pdt d, _ => some (.pdt d)
  | .emp, _ => some .emp
  | .own _, .own d => if d.nd = true then some (.own d) else none
  | .par _, .par d => if d.nd = true then some (.par d) else none
  | _, _ => none
def thL : LS → LS → Option LS
  | [], [] => some []
  | k :: ls, k2 :: ls2 => (thK k k2).bind fun k3 => (thL ls ls2).map (k3 :: ·)
  | _, _ => none
def resK : Slot → Bool
  | .dat d => d.nd
  | .own d => d.nd
  | _ => false
def thawM (i : Nat) (m : M) : M := fun ls => match ls[i]? with
  | some (.own (.dT es)) => (match m (ls.set i (.dat (.dT es))) with
    | .ok k ls2 => (match ls2[i]?, thL (ls.set i .emp) ls2 with
      | some (.dat (.dT es2)), some ls3 => if resK k = true ∧ D.ndt es2 = true then .ok k (ls3.set i (.own (.dT es2))) else .stk
      | _, _ => .stk)
    | _ => .stk)
  | _ => .stk
section
variable {K : PySem.W.Frag} {mg : Str → Option Value} {B : Base} {F H F2 H2 : Hp} {σ : L2.St} {ls ls2 l3 : LS} {vs : List V} {ks : List Slot} {v : V} {k : Slot} {i : Nat} {es es2 : List (List Key × D)} {p : Addr} {kvs : List (List Key × V)}
def thW (H : Hp) (σ : L2.St) (ls : LS) (p : Addr) (a : Addr) : Prop := a ≠ p ∧ ∃ (n : Nat) (e : Ent), (σ.zip ls)[n]? = some e ∧ a ∈ adE H e
def thB (F H : Hp) (σ : L2.St) (ls : LS) (p : Addr) (u : HO) (B : Base) : Base := ⟨upd F p u, H, thW H σ ls p, B.P⟩
end
def ltTD (x y : D) : Option Slot := match x, y with
  | .tup ds, .tup es => (match intsD ds, intsD es with
    | some ns, some ms => some (.dat (.bl (lexL ns ms)))
    | _, _ => none)
  | _, _ => none
end VM
namespace VM
open PySem PySem.Spec PyProof.Rows L2
section
variable {pg : Program} {wd : World} {Ar : Around} {sh : Shared} {Rs : Result → Shared → Prop} {g dst : Addr} {lo hi : Int} {t1 t2 t3 : Tok} {m : Nat} {k0 : Nat}
def itO (lo hi : Int) : Obj := { cls := .type "longrange_iterator", data := .fields #[rawInt lo, rawInt (Builtin.Range.rangeSize lo hi 1), rawInt 1] }
def Fill (Rs : Result → Shared → Prop) (sh : Shared) (dst : Addr) (lo : Int) (m : Nat) (res : Value) : Prop :=
  ∀ h2 tk ys k2, (∀ b o, b ≠ dst → sh.heap.get? b = some o → h2.get? b = some o) → h2.get? dst = some { cls := .type "list", dict := none, data := .seq ys k2, slots := #[] } →
    ItemsOf (fun i v => ∃ t, v = .int (lo + i * 1) t) ys m → Rs (.ok (.ret res)) { sh with heap := h2, toks := tk }
end
def tLstRw (te : L2.St → Hp → (Int → Int → Hp → Prop) → Prop) : L2.TE := fun σ H Q => te σ H fun a b H1 => (b - a).toNat ≤ 2 ^ 24 ∧ ∀ q, H1 q = none → Q (.ref q) (upd H1 q (.lst (rgV a b)))
section
variable {X : Cx} {e : Expr} {te : L2.St → Hp → (Int → Int → Hp → Prop) → Prop}
end
def lrW (ma mb : M) : M := fun ls => (ma ls).bind fun k1 ls => (mb ls).bind fun k2 ls => match k1, k2 with
  | .dat (.int i), .dat (.int j) => if (j - i).toNat ≤ 1000000 then .ok (.own (.lst (rangeD i (j - i).toNat))) ls else .stk
  | _, _ => .stk
section
variable {X : Cx} {B : Base} {W : WX} {a b : Expr} {ma mb : M} {pos p p2 q2 : Pos}
end
variable {a b : M} {ls ls1 ls2 : LS} {k : Slot}
def optS {α : Type} (f : α → D) (o : Option α) : Slot := match o with
  | none => .emp
  | some x => .dat (f x)
def rNeE (K : PySem.W.Frag) : R2 := fun x y H Q => ∃ a b xs, x = .ref a ∧ y = .ref b ∧ SqL K H a xs ∧ SqL K H b [] ∧ Q (.bl (!xs.isEmpty)) H
def neED (x y : D) : Option Slot := match x, y with
  | .lst ds, .lst [] => some (.dat (.bl (!ds.isEmpty)))
  | _, _ => none
def rNeRd : R2 := fun x y H Q => ∃ a b ks ls, x = .ref a ∧ y = .ref b ∧ Rd H a (.dK ks) ∧ Rd H b (.dK ls) ∧ ks.length = ls.length ∧ (∀ p ∈ ks, L2.valV ls p.1 = some p.2 ∧ flatB p.2 = true) ∧ Q (.bl false) H
def isTr : D → Bool
  | .bl true => true
  | _ => false
def neKTD (x y : D) : Option Slot := match x, y with
  | .dK es, .dK fs => if es.length = fs.length ∧ (es.all fun p => isTr p.2) = true ∧ (fs.all fun p => isTr p.2) = true ∧ (es.all fun p => (fs.map (·.1)).any fun a => decide (a = p.1)) = true then some (.dat (.bl false)) else none
  | _, _ => none
def rEqRd : R2 := fun x y H Q => ∃ a b ks ls, x = .ref a ∧ y = .ref b ∧ Rd H a (.dK ks) ∧ Rd H b (.dK ls) ∧ ks.length = ls.length ∧ (∀ p ∈ ks, L2.valV ls p.1 = some p.2 ∧ flatB p.2 = true) ∧ Q (.bl true) H
def eqKTD (x y : D) : Option Slot := (neKTD x y).map fun _ => .dat (.bl true)
end VM
set_option maxHeartbeats 4000000
namespace VM
open PySem PySem.Spec L2 PyProof.Rows
section
variable {X : Cx} {B : Base} {W : WX} {k n : Nat} {f C q : Addr} {fd : FuncData} {pn : List Str} {x m : Str} {p pos apos : Pos} {e o : Expr} {es : List Expr} {am : AM} {g : List Slot → RF}
end
def isID : D → Bool
  | .int _ => true
  | _ => false
def ilD : List D → Bool
  | [] => false
  | d :: ds => isID d && ds.all isID
mutual
def D.ni : D → Bool
  | .lst ds => !ilD ds && D.nis ds
  | .tup ds => D.nis ds
  | .ktup ds => D.nis ds
  | .dK es => D.nik es
  | .dT es => D.nit es
  | .ins _ gs => D.nif gs
  | .scr _ => false
  | .exc _ _ => false
  | .non => true
  | .bl _ => true
  | .int _ => true
  | .str _ => true
def D.nis : List D → Bool
  | [] => true
  | d :: ds => D.ni d && D.nis ds
def D.nik : List (Key × D) → Bool
  | [] => true
  | (_, d) :: ds => D.ni d && D.nik ds
def D.nit : List (List Key × D) → Bool
  | [] => true
  | (_, d) :: ds => D.ni d && D.nit ds
def D.nif : List (Str × D) → Bool
  | [] => true
  | (_, d) :: ds => D.ni d && D.nif ds
end
def IL : HO → Prop
  | .lst xs => xs ≠ [] ∧ ∀ x ∈ xs, ∃ i, x = V.int i
  | _ => False
section
variable {K : PySem.W.Frag} {mg : Str → Option Value} {F F' H : Hp}
theorem dds_int : ∀ {ds : List D} {xs : List V}, DDs K mg F ds xs → (∀ x ∈ xs, ∃ i, x = V.int i) → ds.all isID = true
  | _, _, .nil, _ => rfl
  | _, _, .cons a b, h => by
    obtain ⟨i, rfl⟩ := h _ (List.mem_cons_self ..)
    cases a
    rw [List.all_cons, dds_int b fun x hx => h x (List.mem_cons_of_mem _ hx)]; rfl
theorem il_of {ds : List D} {xs : List V} (h : DDs K mg F ds xs) (i : IL (.lst xs)) : ilD ds = true := by
  have := dds_int h i.2
  cases h with
  | nil => exact absurd rfl i.1
  | cons a b => exact this
section
variable (x : ∀ a o, F a = some o → ¬ IL o → F' a = some o)
include x
theorem rd_thin {a : Addr} {u : HO} (hu : ¬ IL u) (h : Rd F a u) : Rd F' a u := by
  rcases h with h | ⟨o, h⟩
  · exact .inl (x _ _ h hu)
  · exact .inr ⟨o, x _ _ h (fun z => z)⟩
mutual
theorem DD.thin : ∀ {d : D} {v : V}, DD K mg F d v → d.ni = true → DD K mg F' d v
  | _, _, .non, _ => .non
  | _, _, .bl b, _ => .bl b
  | _, _, .int b, _ => .int b
  | _, _, .str b, _ => .str b
  | _, _, .scr h, e => by simp [D.ni] at e
  | _, _, .exc _ _ _ _, e => by simp [D.ni] at e
  | _, _, .lst h r, e => by
    simp only [D.ni, Bool.and_eq_true] at e
    refine .lst (x _ _ h fun z => ?_) (DDs.thin r e.2)
    rw [il_of r z] at e
    exact absurd e.1 (by decide)
  | _, _, .tup h r, e => by
    simp only [D.ni] at e
    exact .tup (x _ _ h fun z => z) (DDs.thin r e)
  | _, _, .ktup h r, e => by
    simp only [D.ni] at e
    refine .ktup ?_ (DDs.thin r e)
    rcases h with h | h
    · exact .inl (rd_thin x (fun z => z) h)
    · exact .inr h
  | _, _, .dk h r, e => by
    simp only [D.ni] at e
    exact .dk (rd_thin x (fun z => z) h) (DDk.thin r e)
  | _, _, .dt h r, e => by
    simp only [D.ni] at e
    exact .dt (rd_thin x (fun z => z) h) (DDt.thin r e)
  | _, _, .ins m h r, e => by
    simp only [D.ni] at e
    exact .ins m (x _ _ h fun z => z) (DDf.thin r e)
theorem DDs.thin : ∀ {d : List D} {v : List V}, DDs K mg F d v → D.nis d = true → DDs K mg F' d v
  | _, _, .nil, _ => .nil
  | _, _, .cons h r, e => by
    simp only [D.nis, Bool.and_eq_true] at e
    exact .cons (DD.thin h e.1) (DDs.thin r e.2)
theorem DDk.thin : ∀ {d : List (Key × D)} {v : List (Key × V)}, DDk K mg F d v → D.nik d = true → DDk K mg F' d v
  | _, _, .nil, _ => .nil
  | _, _, .cons h r, e => by
    simp only [D.nik, Bool.and_eq_true] at e
    exact .cons (DD.thin h e.1) (DDk.thin r e.2)
theorem DDt.thin : ∀ {d : List (List Key × D)} {v : List (List Key × V)}, DDt K mg F d v → D.nit d = true → DDt K mg F' d v
  | _, _, .nil, _ => .nil
  | _, _, .cons h r, e => by
    simp only [D.nit, Bool.and_eq_true] at e
    exact .cons (DD.thin h e.1) (DDt.thin r e.2)
theorem DDf.thin : ∀ {d : List (Str × D)} {v : List (Str × V)}, DDf K mg F d v → D.nif d = true → DDf K mg F' d v
  | _, _, .nil, _ => .nil
  | _, _, .cons h r, e => by
    simp only [D.nif, Bool.and_eq_true] at e
    exact .cons (DD.thin h e.1) (DDf.thin r e.2)
end
end
end
def NI (F : Hp) : Prop := ∀ a o, F a = some o → ¬ IL o
open Classical in
noncomputable def rst (F : Hp) : Hp := fun a => match F a with
  | some o => if IL o then none else some o
  | none => none
theorem rst_some {F : Hp} {a : Addr} {o : HO} (h : rst F a = some o) : F a = some o ∧ ¬ IL o := by
  unfold rst at h
  cases e : F a with
  | none => rw [e] at h; cases h
  | some u =>
    rw [e] at h
    simp only at h
    split at h
    · cases h
    · rename_i z
      cases h
      exact ⟨rfl, z⟩
theorem rst_of {F : Hp} {a : Addr} {o : HO} (h : F a = some o) (n : ¬ IL o) : rst F a = some o := by
  unfold rst
  rw [h]
  exact if_neg n
def niS : Slot → Bool
  | .emp => true
  | .dat d => d.ni
  | .pdt d => d.ni
  | _ => false
def niP : Slot → Bool
  | .dat d => d.ni
  | _ => false
section
variable {K : PySem.W.Frag} {mg : Str → Option Value} {F F0 F' H H' Fr : Hp} {Wp : Addr → Prop} {vs : List V} {ks ps : List Slot}
theorem Rp.rst (R : Rp ⟨K, mg, ⟨F, H, Wp, noP⟩⟩ F H [] [] vs ps) (h : ps.all niP = true) : Rp ⟨K, mg, ⟨VM.rst F, H, fun _ => False, noP⟩⟩ (VM.rst F) H [] [] vs ps := by
  have dat : ∀ (n : Nat) (e : Ent), (ent vs ps [] [])[n]? = some e → ∃ w d, e = (some w, .dat d) ∧ DD K mg F d w ∧ d.ni = true := fun n e he => by
    have e1 := R.good.all n e he
    obtain ⟨w, q, h1, h2, rfl⟩ := ent_nil he
    have hq := List.all_eq_true.mp h q (List.mem_of_getElem? h2)
    cases q <;> first | (exact (Bool.false_ne_true hq).elim) | skip
    obtain ⟨y, e2, dd⟩ := e1
    cases e2
    exact ⟨_, _, rfl, dd, hq⟩
  refine ⟨fun a o e => R.ex a o (rst_some e).1, Ex.rfl, R.len, R.klen, ⟨fun n e he => ?_, fun m n e e' p h1 h2 o1 o2 => ?_⟩, R.al, fun i d hd => by rcases hd with z | z | z | ⟨t, z⟩ <;> simp at z, fun b o e => .inr e, fun b e => e, fun b z => ?_⟩
  · obtain ⟨w, d, rfl, dd, hn⟩ := dat n e he
    exact ⟨w, rfl, dd.thin (fun a o e z => rst_of e z) hn⟩
  · obtain ⟨w, d, rfl, _, _⟩ := dat m e h1
    cases o1
  · exact .inr (.inl z)
end
def thI (i : Nat) (ls : LS) : Option LS := match ls[i]? with
  | some (.dat (.lst ds)) => if ilD ds = true ∧ ((ls.set i .emp).all niS) = true then some (ls.set i (.own (.lst ds))) else none
  | _ => none
def thS (i : Nat) (b : SM) : SM := fun ls => match thI i ls with
  | some ls' => b ls'
  | none => .stk
section
variable {X : Cx} {B : Base} {W : WX} {sa sb : SM} {st : Stmt} {sts : List Stmt}
def tS0 (G : Cfg) (W : WX) (m : SM) : TS := fun D σ H => ∃ F ls, Rp G F H σ ls [] [] ∧ PostS G W [] [] (m ls) D
end
def funMN (n : Nat) (b : SM) : List Slot → RF := fun ps => if ps.all niP = true then funM n b ps else .stk
end VM
namespace VM
open PySem PySem.Spec L2
@[irreducible] def rng2Ok (a b : Int) : Bool := inR a && inR b
end VM
namespace VM
open PySem PySem.Spec L2 PyProof.Rows
open AutoSeq1 (wpAny_loadPart')
section
variable {P : Program} {w : World} {A : Around} {s : Shared} {E : Value → Shared → Prop} {Q : Value → Shared → Prop}
def eqAll (P : Program) (w : World) (A : Around) (E : Value → Shared → Prop) (Q : Bool → Shared → Prop) : List (Value × Value) → Shared → Prop
  | [], s => Q true s
  | (x, y) :: r, s => wpAny (model P w) A (eqBool x y) (fun c s' => if c = true then eqAll P w A E Q r s' else Q false s') E s
end
section
variable {X : Cx} {k : Nat} {f C : Addr} {fd : FuncData} {ps : List Str} {sp : Sp} {pins : List (Addr × Obj)} {σ : L2.St} {H : Hp} {s : Shared}
def eqStep (K : PySem.W.Frag) (C : Addr) (sp : Sp) (x y : V) (H : Hp) (N : Hp → Prop) : Prop := ∃ a dx fs tb, x = .ref a ∧ H a = some (.ins C dx fs) ∧ TyX K H y tb ∧ PySem.W.notFirst K C tb = true ∧ (y = .ref a → N H) ∧ sp [x, y] H (fun v H' => v = .bl true ∧ N H') E0
def rNeT (K : PySem.W.Frag) (C : Addr) (sp : Sp) : R2 := fun x y H Q => ∃ a b v1 v2 w1 w2 t, x = .ref a ∧ y = .ref b ∧ H a = some (.tup [.str t, v1, v2]) ∧ H b = some (.tup [.str t, w1, w2]) ∧ eqStep K C sp v1 w1 H fun H1 => eqStep K C sp v2 w2 H1 fun H2 => Q (.bl false) H2
end
def neT3 (xs : List Str) (f : List Slot → RF) (ok : D → Bool) (x y : D) (ls : LS) : R := match x, y with
  | .tup [.str a, .ins c1 g1, .ins c2 g2], .tup [.str b, d1, d2] => if a = b ∧ c1 ∈ xs ∧ c2 ∈ xs ∧ ok d1 = true ∧ ok d2 = true then
      (match callK f [.dat (.ins c1 g1), .dat d1] ls with
      | .ok (.dat (.bl true)) ls1 => (match callK f [.dat (.ins c2 g2), .dat d2] ls1 with
        | .ok (.dat (.bl true)) ls2 => .ok (.dat (.bl false)) ls2
        | _ => .stk)
      | _ => .stk) else .stk
  | _, _ => .stk
def neT (xs : List Str) (f : List Slot → RF) (ok : D → Bool) (ma mb : M) : M := fun ls => (ma ls).bind fun k1 ls => (mb ls).bind fun k2 ls => match look ls k1, look ls k2 with
  | some x, some y => (match eqP x y with
    | some b => .ok (.dat (.bl (!b))) ls
    | none => neT3 xs f ok x y ls)
  | _, _ => .stk
section
variable {X : Cx} {B : Base} {W : WX} {a b : Expr} {ma mb : M} {k : Nat} {f C : Addr} {fd : FuncData} {ps : List Str} {g : List Slot → RF} {xs : List Str} {pos : Pos} {ok : D → Bool}
end
section
variable {a b : M} {ls ls1 ls2 : LS} {k1 k2 xn : Slot} {A : Type} {ea : A → D} {F : A → A → Res Bool} {xs : List Str} {f : List Slot → RF} {ok : D → Bool} {x y : D} {v : Bool}
end
end VM
set_option maxHeartbeats 2000000
namespace VM
open PySem PySem.Spec L2
def zipI (am : AM) : IM := fun ls => match am ls with
  | .ok as ls => (match as with
    | [.dat (.lst ds), .dat (.lst es)] => .ok (zipD ds es) none ls
    | _ => .stk)
  | .err x ls => .err x ls
  | .stk => .stk
section
variable {X : Cx} {B : Base} {W : WX} {e e2 : Expr} {am : AM} {p pos tpos : Pos} {elts : List Expr} {kk : Nat}
end
@[irreducible] def repOk (n : Int) (k : Nat) : Bool := decide (0 ≤ n ∧ n < 100000 ∧ k * n.toNat ≤ 1000000)
def idxP : List PyData → PyData → Option Nat
  | [], _ => none
  | z :: ds, d => if PyData.eqv z d = true then some 0 else (idxP ds d).map (· + 1)
def idxD (ds : List D) (y : D) : Option Int := match toPys ds, toPy y with
  | some ps, some p => if SeqAt.shaped (.list ps) = true ∧ SeqAt.shaped p = true then (idxP ps p).map fun j => (j : Int) else none
  | _, _ => none
def idxM (mo : M) (am : AM) : M := fun ls => (mo ls).bind fun k ls => match k with
  | .dat (.lst ds) => (am ls).bind fun as ls => match as with
    | [.dat y] => (match idxD ds y with
      | some i => .ok (.dat (.int i)) ls
      | none => .stk)
    | _ => .stk
  | _ => .stk
section
variable {X : Cx} {B : Base} {W : WX} {o e : Expr} {om : M} {am : AM} {apos cpos : Pos}
end
@[irreducible] def letK {α ρ β σ : Type} (v : α) (c : α → Ctl ρ β σ) : Ctl ρ β σ := c v
theorem SimS.letK {α ρ β σ : Type} {F : Fr ρ β} {E : σ → LS} {r : S} {v : α} {c : α → Ctl ρ β σ} (h : ∀ x, v = x → SimS F E r (c x)) : SimS F E r (VM.letK v c) := by
  unfold VM.letK
  exact h v rfl
theorem letK_of {α ρ β σ : Type} {v : α} {f : α → Ctl ρ β σ} {c : Ctl ρ β σ} (h : f v = c) : letK v f = c := by
  unfold letK
  exact h
def jdsB : List D → Option (List (Int × Int))
  | [] => some []
  | x :: xs => match jdB x, jdsB xs with
    | some j, some js => some (j :: js)
    | _, _ => none
def stB : D → Option Str
  | .str s => some s
  | _ => none
def chrS (s : Str) : List Str := s.cps.toList.map fun c => ⟨#[c]⟩
def dictS {α : Type} (ps : List (Str × α)) : List (Str × α) := mergeP ps
end VM
set_option maxHeartbeats 4000000
namespace VM
open PySem PySem.Spec PyProof.Rows L2
section
variable {G : Cfg} {F F' H H' : Hp} {σ : L2.St} {ls ls' : LS} {vs ws : List V} {ks as ps ps' : List Slot} {i j : Nat} {t : T} {v : V} {p c : Addr} {d d' : D} {o' : HO}
theorem Rp.mutU {ts : List T} {xs : List V} {j : Nat} (R : Rp G F H σ ls vs ks) (h1 : ls[i]? = some (.tre (.tup ts))) (h2 : σ[i]? = some (some (.ref p))) (h3 : H p = some (.tup xs)) (h4 : ts[j]? = some (.fl d)) (h5 : xs[j]? = some (.ref c)) (hb : ObD G F o' d') :
    Rp G F (L2.upd H c o') σ (ls.set i (.tre (.tup (ts.set j (.fl d'))))) vs ks := by
  have he : (ent vs ks σ ls)[vs.length + i]? = some (some (.ref p), .tre (.tup ts)) := by rw [ent_loc R.klen]; exact zip_at h2 h1
  obtain ⟨y, ey, tk, nd⟩ := R.good.all _ _ he
  cases ey
  cases tk with
  | tup f e3 q =>
    rw [h3] at e3; cases e3
    rw [ads_tup h3] at nd
    obtain ⟨c', g1, g2, g3⟩ := q.at h4
    rw [h5] at g1; cases g1
    have pc : p ≠ c := fun z => by
      obtain ⟨_, _, u, u1, u2⟩ := g2.one
      rw [← z, h3] at u1; cases u1; exact u2
    obtain ⟨q1, q2⟩ := q.setAt hb nd h4 h5
    obtain ⟨m1, m2, m3⟩ := R.mutB (o' := o') g2.1 g2.2.1
    have hp' : (L2.upd H c o') p = some (.tup xs) := by rw [upd_ne pc]; exact h3
    have own : adE H (some (.ref p), Slot.tre (.tup ts)) = adsL H ts xs := ads_tup h3
    have own' : adE (L2.upd H c o') (some (.ref p), Slot.tre (.tup (ts.set j (.fl d')))) = adsL H ts xs := by rw [← q2]; exact ads_tup hp'
    have hl := (List.getElem?_eq_some_iff.mp h1).1
    refine ⟨m3, R.ex0, by rw [List.length_set]; exact R.len, R.klen, ?_, fun w i' hj => ?_, fun i' d2 hd => ?_, m1, m2, R.b3⟩
    · rw [ent_setl R.klen h2]
      refine R.good.take he Ex.rfl m3.tu (fun q' hq' => ⟨.inl rfl, .inl (upd_ne fun z => hq' (by rw [own, z]; exact g3))⟩) ⟨_, rfl, .tup f hp' q1, ?_⟩ fun q' hq' => .inl (by rw [own'] at hq'; rw [own]; exact hq')
      show (adE (L2.upd H c o') (some (.ref p), Slot.tre (.tup (ts.set j (.fl d'))))).Nodup
      rw [own']; exact nd
    · obtain ⟨s, a2, a3, a4⟩ := R.al w i' hj
      by_cases hi : i' = i
      · subst hi
        exact ⟨_, a2, by rw [List.getElem?_set_self hl], rfl⟩
      · exact ⟨s, a2, by rw [List.getElem?_set_ne (Ne.symm hi)]; exact a3, a4⟩
    · by_cases hi : i' = i
      · subst hi
        rw [List.getElem?_set_self hl] at hd
        rcases hd with z | z | z | ⟨_, z⟩ <;> cases z
      · rw [List.getElem?_set_ne (Ne.symm hi)] at hd
        exact R.pin i' d2 hd
end
def tupT (am : AM) : M := fun ls => (am ls).bind fun as ls => match trs as with
  | some ts => if ts.length ≤ 1000 then .ok (.tre (.tup ts)) ls else .stk
  | none => .stk
def asg2t (i j : Nat) (am : AM) : SM := fun ls => match am ls with
  | .ok [.tre t, .dat d'] ls => .nx ((ls.set i (.tre t)).set j (.dat d'))
  | .err x ls => .err x ls
  | _ => .stk
def isiT (tb : D → Option Bool) (tc : Str → Option Bool) (om : M) : M := fun ls => (om ls).bind fun k ls => match lookT ls k with
  | some d => (match isiD tb tc d with
    | some b => .ok (.dat (.bl b)) ls
    | none => .stk)
  | none => .stk
def reprT (om : M) : M := fun ls => (om ls).bind fun k ls => match lookT ls k with
  | some d => (match reprD [d] with
    | some k => .ok k ls
    | none => .stk)
  | none => .stk
def mutU (ty : D → Bool) (g : D → List D → Option (D × D)) (i : Nat) (j : Nat) (am : XA) : M := fun ls => match ls[i]?, am ls with
  | some (.tre (.tup ts)), some ds => (match ts[j]? with
    | some (.fl d) => if ty d = true then (match g d ds with
      | some (d', r) => .ok (.dat r) (ls.set i (.tre (.tup (ts.set j (.fl d')))))
      | none => .stk) else .stk
    | _ => .stk)
  | _, _ => .stk
def methT (m : Str) (x : List Str) (n : Nat) (f : List Slot → RF) (o : M) (am : AM) : M := fun ls => (o ls).bind fun k ls => match look ls k with
  | some (.ins y gs) => if y ∈ x ∧ gs.lookup m = none then (am ls).bind fun as ls => (if as.length = n then callKT f (k :: as) ls else .stk) else .stk
  | _ => .stk
section
variable {X : Cx} {B : Base} {W : WX} {e a b o : Expr} {es : List Expr} {am : AM} {om : M} {pos p p2 apos cpos ipos npos : Pos} {T id : String} {name x : Str} {tb : D → Option Bool} {tc : Str → Option Bool}
end
def finFU (ps : List Slot) (r : S) : RF := match r with
  | .ret (.tre t) ls => (match outs ps ls with
    | some ps' => .ok (.tre t) ps'
    | none => .stk)
  | .err x ls => (match outs ps ls with
    | some ps' => .err x ps'
    | none => .stk)
  | _ => .stk
def funMU (n : Nat) (b : SM) : List Slot → RF := fun ps => finFU ps (b (startLS n ps))
section
variable {K : PySem.W.Frag} {mg : Str → Option Value} {F F' H H' : Hp} {Wp : Addr → Prop} {σ : L2.St} {ls ls' : LS} {vs : List V} {ps ps' : List Slot} {v : V} {k k' : Slot} {N : List Str}
end
end VM
namespace L2
open PySem PySem.Spec PyProof.Rows
def Itse (z : Str) : It :=
  ⟨fun i _ => i < z.cps.size, fun i H v H' => ∃ T c, v = .ref T ∧ H T = none ∧ z.cps[i]? = some c ∧ H' = upd H T (.tup [.int (i : Nat), .str ⟨#[c]⟩]), fun i _ => z.cps.size ≤ i⟩
def iEnumS (ta : TA) : TI := fun σ H R => ta σ H fun vs H1 => ∃ z, vs = [.str z] ∧ R (Itse z) H1
end L2
namespace VM
open PySem PySem.Spec PyProof.Rows L2
def enumSM (am : AM) : IM := fun ls => match am ls with
  | .ok [.dat (.str z)] ls => .ok (enumD ((chrS z).map D.str)) none ls
  | .err x ls => .err x ls
  | _ => .stk
section
variable {X : Cx} {B : Base} {W : WX} {e : Expr} {am : AM} {pos : Pos}
end
def pkK : Key → PyData
  | .inl i => .int i
  | .inr x => .str x
def pkE : List (Key × D) → Option (List (PyData × PyData))
  | [] => some []
  | (k, .int i) :: r => (pkE r).map ((pkK k, .int i) :: ·)
  | _ => none
def reprX : List D → Option Slot
  | [.dK es] => (pkE es).bind fun q => if (PyData.dict q).showable = true ∧ (PyData.dict q).shown.length ≤ 1000000 ∧ (PyData.dict q).depth ≤ 50 then some (.dat (.str (PyData.dict q).shown)) else none
  | ds => reprD ds
def rReprK : List V → Hp → VK → Prop := fun xs H Q => ∃ (a : Addr) (kvs : List (Key × V)) (q : List (PyData × PyData)), xs = [.ref a] ∧ Rd H a (.dK kvs) ∧ q.map (·.1) = kvs.map (fun p => pkK p.1) ∧ (∀ p ∈ q.zip kvs, ∃ i, p.1.2 = .int i ∧ p.2.2 = .int i) ∧ (PyData.dict q).showable = true ∧ (PyData.dict q).shown.length ≤ sizeLine ∧ (PyData.dict q).depth ≤ 50 ∧ Q (.str (PyData.dict q).shown) H
def reprXB (d : D) : Option Str := slS (reprX [d])
end VM
namespace VM
open PySem PySem.Spec L2
section
variable {α β ρ σ : Type}
def tuT (f : α → D) (g : β → D) (x : α × β) : T := .tup [.fz (f x.1), .fl (g x.2)]
def RetU (s : SM) : Prop := ∀ ls k l, s ls = .ret k l → ∃ d1 d2, k = .tre (.tup [.fz d1, .fl d2])
end
end VM
namespace VM
open PySem PySem.Spec PyProof.Rows L2
def strsD : List D → Option (List Str)
  | [] => some []
  | .str s :: r => (strsD r).map (s :: ·)
  | _ => none
def joinD : D → D → Option Slot
  | .str a, .lst ds => (strsD ds).bind fun ys => if (ys.map (·.length)).sum + ys.length * a.length ≤ 16777216 then some (.dat (.str (Txt.join a ys))) else none
  | _, _ => none
def splitD : D → D → Option Slot
  | .str a, .str b => if (b.length == 0) = false ∧ a.length ≤ 1000000 then some (.own (.lst ((Txt.split a b).map D.str))) else none
  | _, _ => none
def m1M (g : D → D → Option Slot) (mo me : M) : M := fun ls => (mo ls).bind fun k1 ls => match look ls k1 with
  | some (.str _) => (me ls).bind fun k2 ls => lift2 g k1 k2 ls
  | _ => .stk
def rJoin (K : PySem.W.Frag) : V → List V → Hp → VK → Prop := fun x xs H Q => ∃ a p, ∃ ys : List Str, x = .str a ∧ xs = [.ref p] ∧ (SqL K H p (ys.map V.str) ∨ SqT K H p (ys.map V.str)) ∧
    (ys.map (·.length)).sum + ys.length * a.length ≤ 16777216 ∧ Q (.str (Txt.join a ys)) H
def rSplit : V → List V → Hp → VK → Prop := fun x xs H Q => ∃ a b, x = .str a ∧ xs = [.str b] ∧ (b.length == 0) = false ∧ a.length + 2 ≤ sizeLine ∧ rNewStrs (Txt.split a b) H Q
section
variable {G : Cfg}
end
section
variable {X : Cx} {B : Base} {W : WX} {o e : Expr} {mo me : M} {apos pos : Pos} {g : D → D → Option Slot}
def fmtD : D → Option Slot
  | .str y => if y.length ≤ 1000000 then some (.dat (.str y)) else none
  | .int i => if i.natAbs.log2 < 1920 then some (.dat (.str (toString i))) else none
  | _ => none
def jsM : List M → Str → M
  | [], acc => fun ls => .ok (.dat (.str acc)) ls
  | m :: ms, acc => fun ls => (m ls).bind fun k ls => match look ls k with
    | some (.str y) => if (acc ++ y).length ≤ 1000000 then jsM ms (acc ++ y) ls else .stk
    | _ => .stk
end
section
variable {G : Cfg}
def intX : List D → Option Slot
  | [.str a] => if a.length ≤ 640 then (PySem.intText? a).map fun n => .dat (.int n) else none
  | ds => intD ds
def strX : List D → Option Slot
  | [.int i] => if i.natAbs.log2 < 1920 then some (.dat (.str (toString i))) else none
  | _ => none
end
end VM
namespace OwX
open PySem PySem.Spec PyProof.Rows
section
variable {prog : Program} {w : World} {A : Around} {E : Value → Shared → Prop} {s : Shared} {K : PySem.W.Frag} {x C D f : Addr} {ox od : Obj} {odd : Option Obj}
end
end OwX
namespace VM
open PySem PySem.Spec PyProof.Rows L2
section
variable {X : Cx} {k : Nat} {f C : Addr} {fd : FuncData} {ps : List Str} {sp : Sp} {pins : List (Addr × Obj)} {σ : L2.St} {H : Hp} {s : Shared} {Q : VK} {us : List Value} {vs : List V}
def rStrOwn (C : Addr) (sp : Sp) : List V → Hp → VK → Prop := fun xs H Q => ∃ a dx fs, xs = [.ref a] ∧ H a = some (.ins C dx fs) ∧ sp [.ref a] H (fun v H' => ∃ y : Str, v = .str y ∧ Q (.str y) H') E0
end
def strF : D → Option D
  | .str y => some (.str y)
  | _ => none
def strO (xs : List Str) (f : List Slot → RF) (a : AM) : M := fun ls => (a ls).bind fun ks ls => match ks with
  | [k] => (match look ls k with
    | some (.ins y _) => if y ∈ xs then (match callK f [k] ls with
      | .ok (.dat (.str z)) ls => .ok (.dat (.str z)) ls
      | _ => .stk) else .stk
    | _ => .stk)
  | _ => .stk
section
variable {X : Cx} {B : Base} {W : WX} {a b e : Expr} {ma mb : M} {am : AM} {k : Nat} {f C : Addr} {fd : FuncData} {ps : List Str} {g : List Slot → RF} {xs : List Str} {pos p : Pos}
end
def nsD : List D → Option (List Int)
  | [] => some []
  | .int i :: r => (nsD r).map (i :: ·)
  | _ => none
def leN (ns ms : List Int) : Bool := Ob.lexAt (fun j => decide (ns.getD j 0 = ms.getD j 0)) (fun j => decide (ns.getD j 0 ≤ ms.getD j 0)) (decide (ns.length ≤ ms.length)) 0 (min ns.length ms.length)
def leTD : D → D → Option Slot
  | .tup xs, .tup ys => (nsD xs).bind fun ns => (nsD ys).map fun ms => .dat (.bl (leN ns ms))
  | _, _ => none
end VM
namespace VM
open PySem PySem.Spec L2
section
variable {ls ls1 ls2 : LS} {k k1 k2 : Slot} {mo me m : M} {a y : Str} {d x : D} {xn : Exn} {g : D → D → Option Slot}
@[irreducible] def joinOk (a : Str) (ys : List Str) : Bool := decide ((ys.map (·.length)).sum + ys.length * a.length ≤ 16777216)
@[irreducible] def splOk (a : Str) : Bool := decide (a.length ≤ 1000000)
def fmtS (i : Int) : Option Str := if i.natAbs.log2 < 1920 then some (toString i) else none
def jsF (acc : Str) (ys : List Str) : Str := ys.foldl (· ++ ·) acc
@[irreducible] def jsOk (ys : List Str) : Bool := decide ((jsF Str.empty ys).length ≤ 1000000)
def JsE : List M → List Str → LS → LS → Prop
  | [], [], ls, ls' => ls = ls'
  | m :: ms, y :: ys, ls, ls' => ∃ k ls1, m ls = .ok k ls1 ∧ look ls1 k = some (.str y) ∧ JsE ms ys ls1 ls'
  | _, _, _, _ => False
def intS (a : Str) : Option Int := if a.length ≤ 640 then PySem.intText? a else none
end
end VM
namespace VM
open PySem PySem.Spec PyProof.Rows L2
def geN (ns ms : List Int) : Bool := Ob.lexAt (fun j => decide (ns.getD j 0 = ms.getD j 0)) (fun j => decide (ms.getD j 0 ≤ ns.getD j 0)) (decide (ms.length ≤ ns.length)) 0 (min ns.length ms.length)
def rGeT (K : PySem.W.Frag) : R2 := fun x y H Q => ∃ (p q : Addr) (ns ms : List Int), x = .ref p ∧ y = .ref q ∧ SqT K H p (ns.map V.int) ∧ SqT K H q (ms.map V.int) ∧ Q (.bl (geN ns ms)) H
def geTD : D → D → Option Slot
  | .tup xs, .tup ys => (nsD xs).bind fun ns => (nsD ys).map fun ms => .dat (.bl (geN ns ms))
  | _, _ => none
def repS (x : Str) (n : Nat) : Str := ⟨(List.replicate n x.cps.toList).flatten.toArray⟩
def rMulS : R2 := fun x y H Q => ∃ (z : Str) (n : Int), x = .str z ∧ y = .int n ∧ 0 ≤ n ∧ n ≤ 1000000 ∧ n.toNat * z.length ≤ 1000000 ∧ Q (.str (repS z n.toNat)) H
def mulSD : D → D → Option Slot
  | .str z, .int n => if 0 ≤ n ∧ n ≤ 1000000 ∧ n.toNat * z.length ≤ 1000000 then some (.dat (.str (repS z n.toNat))) else none
  | _, _ => none
end VM
namespace VM
open PySem PySem.Spec L2
@[irreducible] def mulSOk (z : Str) (n : Int) : Bool := decide (0 ≤ n ∧ n ≤ 1000000 ∧ n.toNat * z.length ≤ 1000000)
def jpB : D → Option ((Int × Int) × Int)
  | .tup [.tup [.int a, .int b], .int n] => some ((a, b), n)
  | _ => none
def jpsL : List D → Option (List ((Int × Int) × Int))
  | [] => some []
  | d :: ds => (jpB d).bind fun p => (jpsL ds).map (p :: ·)
def jpsB : D → Option (List ((Int × Int) × Int))
  | .lst ds => jpsL ds
  | _ => none
end VM
set_option maxHeartbeats 2000000
namespace VM
open PySem PySem.Spec PyProof.Rows
open PySem.HandSPX (refsVE refsVE_contains excO)
def ErC (H : Heap) (C : Addr) (ms : List Value) : Prop := refsVE ms = true ∧ ∃ nm q N bs hb sn sb ab cl dd k0 k1 k2 k3 k5, H.get? C = some (excClassObj nm q C N bs ms hb sn sb ab cl dd k0 k1 k2 k3 k5 "ValueError.__new__")
section
variable {pg : Program} {wd : World} {U : Around} {Er : Value → Shared → Prop} {Re : Result → Shared → Prop} {H : Heap} {gs : Array GenState} {dr : Drawn} {n : Nat} {os : OsState} {C : Addr} {ms us : List Value} {kw : List (Str × Value)}
theorem er_chk {Qu : Unit → Shared → Prop} (z : ErC H C ms) (w : Qu () ⟨H, gs, dr, n, os⟩) : wpAny (model pg wd) U (checkBuiltinCall "ValueError.__new__" ⟨.ref C :: us, kw⟩) Qu Er ⟨H, gs, dr, n, os⟩ := by
  have B := PySem.F.excBase_ValueError
  obtain ⟨zr, nm, q, N, bs, hb, sn, sb, ab, cl, dd, k0, k1, k2, k3, k5, zc⟩ := z
  have i1 : (Value.ref C :: ms).contains (.type "ValueError") = true := by rw [List.contains_cons, refsVE_contains _ ms zr, B.hasB, Bool.or_true]
  have st := B.noStar
  simp only [checkBuiltinCall, B.newKind, B.newSplit, B.newRow]
  repeat (first | (refine wpAny_loadPart_at zc ?_) | (refine wpAny_isSubtype_exc zc ?_; rw [i1]) | (refine wpAny_staticBase_exc zc ?_) | (refine wpAny_madeBy_exc zc ?_) | (simp only [bne_self_eq_false, Bool.false_eq_true, if_false]) | wp_step)
  exact w
theorem er_new (z : ErC H C ms) (sz : us.length ≤ sizeLine) (w : Re (.ok (.ret (.ref (H.objs.size + 1)))) ⟨(H.push (PySem.W.kdv_tup us)).push (excO C H.objs.size), gs, dr, n, os⟩) :
    codeAny (model pg wd) U (.builtin "ValueError.__new__" ⟨.ref C :: us, kw⟩) Re ⟨H, gs, dr, n, os⟩ := by
  have B := PySem.F.excBase_ValueError
  obtain ⟨zr, nm, q, N, bs, hb, sn, sb, ab, cl, dd, k0, k1, k2, k3, k5, zc⟩ := z
  have e0 := B.ends
  have i1 : (Value.ref C :: ms).contains (.type "ValueError") = true := by rw [List.contains_cons, refsVE_contains _ ms zr, B.hasB, Bool.or_true]
  have i2 : (Value.ref C :: ms).contains (.type "AttributeError") = false := by rw [List.contains_cons, refsVE_contains _ ms zr, B.noAttr]; exact rfl
  have i3 : (Value.ref C :: ms).contains (.type "NameError") = false := by rw [List.contains_cons, refsVE_contains _ ms zr, B.noName]; exact rfl
  refine codeAny_builtinAt B.entry ?_
  unfold Builtin.«BaseException.__new__»
  refine PySem.wpAt_bind (?_ : PySem.wpAt _ _ _ (stack >>= _) _ _ _)
  refine PySem.wpAt_bind (PySem.wpAt_stack fun _ _ => PySem.wpAt_of_wpAny ?_)
  wp_walk
  refine PySem.wpAt_of_wpAny ?_
  rw [B.owner]
  repeat (first | (with_reducible refine wpAny_madeHere_exc B.canon zc ?_) | (with_reducible refine wpAny_loadPart_at zc ?_) | (with_reducible refine wpAny_isSubtype_exc zc ?_; first | rw [i1] | rw [i2] | rw [i3]) | wp_step)
  show Re _ _
  rw [Heap.size_push]; exact w
theorem er_call {fI : Addr} (z : ErC H C ms) (li : PySem.W.Looks (model pg wd) H (typeLookup (.ref C) "__init__") (some (.ref fI))) (lb : ∀ x, PySem.W.Looks (model pg wd) H (bindSpecial (.ref fI) x) (.ref fI, [x])) (sz : us.length ≤ sizeLine)
    (w : codeAny (model pg wd) (U.under (.builtin "type.__call__" ⟨.ref C :: us, kw⟩)) (.call (.ref fI) ⟨.ref (H.objs.size + 1) :: us, kw⟩) (PySem.W.InitBack (H.objs.size + 1) Re) ⟨(H.push (PySem.W.kdv_tup us)).push (excO C H.objs.size), gs, dr, n, os⟩) :
    codeAny (model pg wd) U (.call (.ref C) ⟨us, kw⟩) Re ⟨H, gs, dr, n, os⟩ := by
  have z0 := z
  have B := PySem.F.excBase_ValueError
  obtain ⟨zr, nm, q, N, bs, hb, sn, sb, ab, cl, dd, k0, k1, k2, k3, k5, zc⟩ := z
  have t1 := tc_lookup
  have t2 := tc_bind (.ref C)
  have ty : (⟨H, gs, dr, n, os⟩ : Shared).TypeIs (.ref C) "type" := ⟨_, zc, rfl⟩
  have sb1 := tc_sub
  refine codeAny_of_tree (?_ : wpAny _ _ (callAny (.ref C) _) _ _ _)
  repeat (any_goals (first | assumption | (with_reducible refine wpAny_loadPart_at zc ?_) | wp_step))
  refine ⟨rfl, codeAny_call_builtin_at (Code.quiet_builtin _ (by decide +kernel)) entry_typeCall (PySem.W.check_slot tc_kind tc_split ((PySem.W.Looks.ld (part := none) zc).andThen (PySem.W.Looks.of_pure sb1)) (PySem.W.tc_args _ _ _) ?_)⟩
  unfold Builtin.«type.__call__»
  repeat (first | (with_reducible refine wpAny_loadPart_at zc ?_) | (with_reducible refine wpAny_madeBy_exc zc ?_) | wp_step)
  refine codeAny_call_builtin_code (Code.quiet_builtin _ B.quiet) (er_chk z0 (er_new z0 sz (?_ : wpAny _ _ _ _ _ _)))
  have kp : ∀ b o, H.get? b = some o → ((H.push (PySem.W.kdv_tup us)).push (excO C H.objs.size)).get? b = some o := fun b o e => Heap.get?_push_of_some _ (Heap.get?_push_of_some _ e)
  have zd := kp _ _ zc
  have ge : ((H.push (PySem.W.kdv_tup us)).push (excO C H.objs.size)).get? (H.objs.size + 1) = some (excO C H.objs.size) := by heap_get
  have own : (Value.ref C :: ms).contains (.ref C) = true := by simp
  have j1 := li.keeps kp
  have j2 := (lb (.ref (H.objs.size + 1))).keeps kp
  unfold isInstance
  refine wpAny_bind (?_ : wpAny _ _ (typeOf (.ref (H.objs.size + 1)) >>= fun y => isSubtype y (.ref C)) _ _ ⟨(H.push (PySem.W.kdv_tup us)).push (excO C H.objs.size), gs, dr, n, os⟩)
  refine wpAny_bind (wpAny_typeOf_ref ge (wpAny_isSubtype_exc zd ?_))
  rw [own]
  rw [if_neg (show ¬ (!true) = true by decide)]
  have j0 : PySem.W.Looks (model pg wd) ((H.push (PySem.W.kdv_tup us)).push (excO C H.objs.size)) (typeOf (.ref (H.objs.size + 1))) (.ref C) := (PySem.W.Looks.ld ge).andThen .now
  unfold callSpecial? specialOf
  repeat (first | with_reducible refine wpAny_call ?_ | lk)
  refine codeAny_mono w fun r s2 y => ?_
  rcases r with e | (v | _ | _ | _) <;> first | exact y | exact y.elim | skip
  obtain ⟨rfl, y⟩ := y
  first
    | exact wpAny_pure (wpAny_pure y)
    | (wp_walk; exact y)
end
end VM
namespace VM
open PySem PySem.Spec PyProof.Rows L2
section
variable {X : Cx} {CX : CXT} {k m : Nat} {C fI : Addr} {fd : FuncData} {ps ks : List Str} {sp : Sp} {g : List Value → List Value → List Value} {gV : List V → List V → List V} {x : Str} {p pos : Pos} {e : Expr} {es : List Expr} {kws : List Keyword} {t tk : TA}
theorem erC_of {H : Heap} (T : OexC X.K C) (kin : X.K.In H) : ∃ ms, ErC H C ms := by
  obtain ⟨nm, q, N, bs, bm, sn, sub, ab, col, dd, k0, k1, k2, k3, k5, hC, hbm⟩ := T.cls
  exact ⟨bm, hbm, nm, q, N, bs, true, sn, sub, ab, col, dd, k0, k1, k2, k3, k5, kin _ _ hC⟩
def erQ (Q : VK) (a C : Addr) : VK := fun v H3 => v = .non ∧ ∃ d fs, H3 a = some (exo a C (some d)) ∧ H3 d = some (exd d fs) ∧ Q (.ref a) H3
theorem run_er {pins : List (Addr × Obj)} {σ : L2.St} {H : Hp} {s : Shared} {Q : VK} {us ws : List Value} {vs zs : List V} (T : OexC X.K C) (iC : PySem.W.findIn X.K (.ref C) "__init__" = some (some (.ref fI))) (tI : PySem.W.typeIn X.K (.ref fI) = some (.type "function"))
    (F1 : FnOk X.prog X.w X.K X.mg X.base CX k fI fd ps sp) (hx : Passes CX X (fun _ _ _ => False)) (hr : Room (k + 1) X.A) (hb : KBn X.K fd ps (m + 1) ks g gV) (I : Inv X pins σ H s) (r : Vals vs us) (rz : Vals zs ws) (l1 : vs.length = m) (l2 : zs.length = ks.length) (hm : m ≤ 1000)
    (h : ∀ a, H a = none → sp (gV (.ref a :: vs) zs) (upd H a (exo a C none)) (erQ Q a C) (fun _ _ _ => False)) :
    wpAny (model X.prog X.w) X.A (call (.ref C) us (ks.zip ws)) (EP X pins σ Q) X.xe s := by
  obtain ⟨ms, z⟩ := erC_of T I.kIn
  obtain ⟨hp, gs, dr, n, os⟩ := s
  have hsz : hp.objs.size ≤ hp.objs.size + 1 := Nat.le_succ _
  have hn : H (hp.objs.size + 1) = none := I.hok.fresh hsz
  have kk : ∀ b o, hp.get? b = some o → ((hp.push (PySem.W.kdv_tup us)).push (PySem.HandSPX.excO C hp.objs.size)).get? b = some o := fun b o e => Heap.get?_push_of_some _ (Heap.get?_push_of_some _ e)
  have ge : ((hp.push (PySem.W.kdv_tup us)).push (PySem.HandSPX.excO C hp.objs.size)).get? (hp.objs.size + 1) = some (PySem.HandSPX.excO C hp.objs.size) := by heap_get
  have I2 : Inv X pins σ (upd H (hp.objs.size + 1) (exo (hp.objs.size + 1) C none)) ⟨(hp.push (PySem.W.kdv_tup us)).push (PySem.HandSPX.excO C hp.objs.size), gs, dr, n, os⟩ :=
    I.laid (t' := n) (a := hp.objs.size + 1) (o := exo (hp.objs.size + 1) C none) (h' := (hp.push (PySem.W.kdv_tup us)).push (PySem.HandSPX.excO C hp.objs.size)) kk hsz (exo_ok ge)
  have r1 : Vals (V.ref (hp.objs.size + 1) :: vs) (Value.ref (hp.objs.size + 1) :: us) := .cons rfl r
  have e1 : (Value.ref (hp.objs.size + 1) :: us).length = m + 1 := r1.length.symm.trans (congrArg Nat.succ l1)
  have e2 : ws.length = ks.length := rz.length.symm.trans l2
  have hus : us.length ≤ sizeLine := by rw [← r.length, sizeLine_eq]; omega
  refine wpAny_call (er_call z (PySem.W.looks_findIn I.kIn iC) (fun y => PySem.W.bind_fn I.kIn y tI) hus
    (codeAny_mono (F1.run _ X.stack _ _ ⟨Value.ref (hp.objs.size + 1) :: us, ks.zip ws⟩ (g (Value.ref (hp.objs.size + 1) :: us) ws) _ _ (fun _ _ _ => False) (hr.make C us (ks.zip ws)) (I2.env0.make C us (ks.zip ws)) (hb.to _ _ ws I2.kIn e1 e2) (hb.rel r1 rz) (h _ hn)) fun r s' hq' => ?_))
  cases r with
  | error er => exact hx pins σ _ _ er s' I2 hq'
  | ok fl =>
    cases fl with
    | ret u =>
      obtain ⟨v, H', I3, rv, ev, d, fs, q1, q2, q3⟩ := I2.after hq'
      subst ev
      exact ⟨rv, ⟨V.ref (hp.objs.size + 1), H', I3, rfl, q3⟩⟩
    | next => exact False.elim hq'
    | brk => exact False.elim hq'
    | cont => exact False.elim hq'
end
def exv (a : Addr) : HO := .ext fun h => ∃ o : Obj, h.get? a = some o ∧ o.cls = .type "ValueError"
theorem exv_ok {P : Program} {w : World} {H : Hp} {h : Heap} {a : Addr} {o : Obj} (e : h.get? a = some o) (c : o.cls = .type "ValueError") : ObjOk P w H h a (exv a) :=
  ⟨⟨o, e, c⟩, ⟨o, e⟩, fun _ _ ⟨u, z, y⟩ k => ⟨u, k u z, y⟩⟩
theorem exv_at {P : Program} {w : World} {H : Hp} {h : Heap} {a : Addr} (hok : HOk P w H h) (e : H a = some (exv a)) : ∃ o : Obj, h.get? a = some o ∧ o.cls = .type "ValueError" := by
  have y : ObjOk P w H h a (.ext fun h => ∃ o : Obj, h.get? a = some o ∧ o.cls = .type "ValueError") := hok a _ e
  exact y.1
def tEr (C : Addr) (m : Nat) (sp : Sp) (π : List V → List V) (t : TA) : TE := fun σ H Q => t σ H fun vs H2 => vs.length = m ∧ ∀ a, H2 a = none → sp (.ref a :: π vs) (upd H2 a (exo a C none)) (erQ Q a C) (fun _ _ _ => False)
section
variable {X : Cx} {CX : CXT} {k m : Nat} {C fI : Addr} {fd : FuncData} {ps ks : List Str} {sp : Sp} {g : List Value → List Value → List Value} {gV : List V → List V → List V} {x n : Str} {p pos : Pos} {e : Expr} {es : List Expr} {kws : List Keyword} {t tk : TA} {te : TE} {π : List V → List V}
theorem kb_of (hb : Binds X.K fd ps []) (hl : ps.length = m + 1) : KBn X.K fd ps (m + 1) [] (fun us _ => us) (fun vs _ => vs) := ⟨fun s us ws kin l1 l2 => by
  have b := hb s us kin (by rw [List.append_nil, l1, hl])
  rw [List.append_nil] at b
  exact b, fun r _ => r⟩
theorem pe_er (T : OexC X.K C) (iC : PySem.W.findIn X.K (.ref C) "__init__" = some (some (.ref fI))) (tI : PySem.W.typeIn X.K (.ref fI) = some (.type "function")) (F1 : FnOk X.prog X.w X.K X.mg X.base CX k fI fd ps sp) (hx : Passes CX X (fun _ _ _ => False)) (hr : Room (k + 1) X.A)
    (hb : Binds X.K fd ps []) (hl : ps.length = m + 1) (hm : m ≤ 1000) (gC : X.mg x = some (.ref C)) (ha : L2.PA X (e :: es) t) (hg : Gl X x := by rfl)
    (hdb : (x == ("__debug__" : Str)) = false := by decide) (he : starEach (e :: es) X.env = (false, eval e X.env) :: starEach es X.env := by rfl) (hpl : (backTo pos (starEach es X.env)).any (·.1) = false := by rfl) :
    L2.PE X (.Call (.Name x p) (e :: es) [] pos) (tEr C m sp id t) := by
  refine ⟨fun pins s σ H Q I h => wpAny_Call_Name_kw (ld_glob I hg gC ?_ hdb)⟩
  refine PySem.W.callWith_K (h₀ := X.base) I.ok.mod.kin T.kC (thn (ha.run pos pins s σ H _ I h) fun us s1 ⟨vs, H1, I1, r1, l1, q1⟩ => ⟨I1.kIn, ?_⟩) he hpl
  exact run_er (ks := []) (ws := []) (zs := []) T iC tI F1 hx hr (kb_of hb hl) I1 r1 .nil l1 rfl hm q1
theorem pe_erK (T : OexC X.K C) (iC : PySem.W.findIn X.K (.ref C) "__init__" = some (some (.ref fI))) (tI : PySem.W.typeIn X.K (.ref fI) = some (.type "function")) (F1 : FnOk X.prog X.w X.K X.mg X.base CX k fI fd ps sp) (hx : Passes CX X (fun _ _ _ => False)) (hr : Room (k + 1) X.A)
    (hb : KBn X.K fd ps 1 ks g gV) (hπ : ∀ a zs, gV [.ref a] zs = .ref a :: π zs) (gC : X.mg x = some (.ref C)) (hkw : L2.PK X kws t) (hg : Gl X x := by rfl) (hn : ks.length = m := by rfl)
    (hall : (backToKw pos (keywordEach kws X.env)).all (·.1.isSome) = true := by rfl) (hks : (backToKw pos (keywordEach kws X.env)).filterMap (·.1) = ks := by rfl) (hdb : (x == ("__debug__" : Str)) = false := by decide)
    (hpl : ((backTo pos (starEach [] X.env)).any (·.1) || (backToKw pos (keywordEach kws X.env)).any (·.1.isNone)) = false := by rfl) :
    L2.PE X (.Call (.Name x p) [] kws pos) (tEr C m sp π t) := by
  subst hn
  refine ⟨fun pins s σ H Q I h => wpAny_Call_Name_kw (ld_glob I hg gC ?_ hdb)⟩
  refine PySem.W.callWith_KW0 (h₀ := X.base) I.ok.mod.kin T.kC hall (thn (hkw.run pos pins s σ H _ I h) fun ws s2 ⟨zs, H2, I2, rz, l2, q2⟩ => ⟨I2.kIn, ?_⟩) hpl
  rw [hks]
  exact run_er (m := 0) (us := []) (vs := []) T iC tI F1 hx hr hb I2 .nil rz rfl l2 (Nat.zero_le _) fun a ha => by rw [hπ]; exact q2 a ha
theorem pe_er0 {bmB : List Value} {Bn nId iId : String} (F : ExcBaseFacts Bn nId iId bmB) (q : PySem.W.excIn X.K C bmB nId = true) (gC : X.mg x = some (.ref C)) (kC : PySem.W.keepIn X.K (.ref C) = true) (hg : Gl X x) (hdb : (x == ("__debug__" : Str)) = false := by decide) :
    L2.PE X (.Call (.Name x p) [] [] pos) (fun σ H Q => ∀ a, H a = none → Q (.ref a) (upd H a (exo a C none))) := by
  refine ⟨fun pins s σ H Q I h => wpAny_Call_Name_kw (ld_glob I hg gC ?_ hdb)⟩
  refine PySem.W.callWith_K0 I.kIn kC ?_
  obtain ⟨bm, N, nm, qn, bs, hdct, sn, sub, ab, col, dd, k0, k1, k2, k3, k5, mN, hC, hN, hni, T⟩ := exc_obj I.kIn q
  refine wpAny_call_exc_subT F T hC hN hni (fun h' a hm => ?_) (Nat.zero_le _)
  have hn : H a = none := I.hok.gone hm.new
  obtain ⟨t, ht, _⟩ := hm.there
  exact ⟨.ref a, _, I.laidN hm.keeps hm.new hn (exo_ok ht), rfl, h a hn⟩
theorem pe_ve0 (hg : Gl X "ValueError") (hm : X.mg "ValueError" = none) : L2.PE X (.Call (.Name "ValueError" p) [] [] pos) (fun σ H Q => ∀ a, H a = none → Q (.ref a) (upd H a (exv a))) := by
  refine ⟨fun pins s σ H Q I h => wpAny_Call_Name_kw (ld_blt I hg hm boot_ValueError ?_ (by decide) (by decide))⟩
  obtain ⟨hp1, g1, d1, tk1, os1⟩ := s
  refine PyProof.Rows.callWith_type0 (wpAny_call_exc exb_ValueError.call (fun h' a mk => ?_) (Nat.zero_le _))
  have hn : H a = none := I.hok.gone mk.new
  obtain ⟨t, ht, _⟩ := mk.there
  exact ⟨.ref a, _, I.laidN mk.keeps mk.new hn (exv_ok ht rfl), rfl, h a hn⟩
def tErF (K : PySem.W.Frag) (n : Str) (te : TE) : TE := fun σ H Q => te σ H fun y H1 => ∃ a C dx fs v, y = .ref a ∧ H1 a = some (exo a C (some dx)) ∧ H1 dx = some (exd dx fs) ∧ XfC K C ∧ PySem.W.findIn K (.ref C) n = some none ∧ fs.lookup n = some v ∧ Q v H1
theorem pe_erF (he : L2.PE X e te) (hb : attributeBase e n X.env (eval e X.env) = eval e X.env := by rfl) : L2.PE X (.Attribute e n pos) (tErF X.K n te) := by
  refine ⟨fun pins s σ H Q I h => attr_of hb (thn (he.run pins s σ H _ I h) fun u s1 hh => ?_)⟩
  obtain ⟨y, H1, I1, rx, a, C, dx, fs, v, rfl, e1, e2, T, hno, l, q⟩ := hh
  obtain rfl : u = Value.ref a := rx
  obtain ⟨t1, ho⟩ := exo_at I1.hok e1
  obtain ⟨mA, hns, rel⟩ := exd_at I1.hok e2
  obtain ⟨od, hd, hl⟩ := lookIn_ns hns
  obtain ⟨w, hw, rw'⟩ := RelO.some_of (v := v) (o := mA n) (by rw [← l]; exact rel n)
  exact HandSPX.exc_get I1.kIn (C := C) (od := some od) ⟨ho, rfl, rfl, hd⟩ T.ga T.gg T.exC (PySem.W.findObj_own T.hdC hno rfl (by rw [hl, hw])) (handed_of rw') ⟨v, H1, I1.tok _, rw', q⟩
def rIsEr (K : PySem.W.Frag) : List V → Hp → VK → Prop := fun xs H Q => ∃ (a : Addr) (c : V) (u : Value) (b : Bool), xs = [.ref a, c] ∧ ClsV c u ∧ ((∃ C od fs, H a = some (exo a C od) ∧ ErD H od fs ∧ ExcC K C ∧ PySem.W.kitOne K (.ref C) u = some b) ∨ (H a = some (exv a) ∧ PySem.W.kitOne K (.type "ValueError") u = some b)) ∧ Q (.bl b) H
theorem call_isEr : CallR X (.builtin "isinstance") (rIsEr X.K) := by
  intro pins s σ H xs us Q I r h
  obtain ⟨a, c, u, b, rfl, k, h, q⟩ := h
  obtain ⟨u1, u2, rfl, r1, r2⟩ := vals2 r
  have e2 := k.eq r2
  subst e2
  obtain rfl : u1 = Value.ref a := r1
  rcases h with ⟨C, od, fs, e1, er, T, e⟩ | ⟨e1, e⟩
  · obtain ⟨t1, ho⟩ := exo_at I.hok e1
    have J : ∃ ox oo, PySem.W.InstAt s.heap a ox C oo := by
      rcases er with ⟨rfl, _⟩ | ⟨dx, rfl, e3⟩
      · exact ⟨_, none, ho, rfl, rfl, trivial⟩
      · obtain ⟨mA, hns, _⟩ := exd_at I.hok e3
        obtain ⟨oD, _, _, hD, _⟩ := hns
        exact ⟨_, some oD, ho, rfl, rfl, hD⟩
    obtain ⟨ox, oo, J⟩ := J
    obtain ⟨cd, hcd, _⟩ := PySem.W.any_some T.hd
    exact PySem.W.kia_one (PySem.W.kitx_exc (by rw [hcd]; rfl) T.hg T.hk T.hs T.ha T.hn T.ht T.hm) I.kIn J e (fun z => nomatch z) fun tk => ⟨.bl b, H, I.tok tk, rfl, q⟩
  · obtain ⟨o, ho, hc⟩ := exv_at I.hok e1
    exact PySem.W.kia_one (PySem.W.kitx_bexc PySem.F.excAttr_ValueError PySem.F.lkClass_ValueError PySem.F.soClass_ValueError rfl) I.kIn ⟨o, ho, hc⟩ e (fun z => nomatch z) fun tk => ⟨.bl b, H, I.tok tk, rfl, q⟩
end
def er0 (x : Str) : M := fun ls => .ok (.dat (.exc x [])) ls
def er1 (x f : Str) (am : AM) : M := fun ls => match am ls with
  | .ok as ls => (match as with
    | [.dat d] => .ok (.dat (.exc x [(f, d)])) ls
    | _ => .stk)
  | .err y ls => .err y ls
  | .stk => .stk
def er2 (sw : Bool) (x f g : Str) (am : AM) : M := fun ls => match am ls with
  | .ok as ls => (match as with
    | [.dat d, .dat d'] => .ok (.dat (.exc x (if sw then [(g, d), (f, d')] else [(g, d'), (f, d)]))) ls
    | _ => .stk)
  | .err y ls => .err y ls
  | .stk => .stk
def erF (xs : List Str) (f : Str) (om : M) : M := fun ls => (om ls).bind fun k ls => match look ls k with
  | some (.exc y gs) => if y ∈ xs then (match gs.lookup f with
    | some d => .ok (.dat d) ls
    | none => .stk) else .stk
  | _ => .stk
def isE (tc : Str → Option Bool) (om : M) : M := fun ls => (om ls).bind fun k ls => match look ls k with
  | some (.exc y _) => (match tc y with
    | some b => .ok (.dat (.bl b)) ls
    | none => .stk)
  | _ => .stk
structure ErFOk (K : PySem.W.Frag) (mg : Str → Option Value) (f : Str) (xs : List Str) : Prop where
  c : ∀ y ∈ xs, ∃ C, mg y = some (.ref C) ∧ XfC K C ∧ PySem.W.findIn K (.ref C) f = some none
structure IsEOk (K : PySem.W.Frag) (mg : Str → Option Value) (u : Value) (tc : Str → Option Bool) : Prop where
  c : ∀ y b, tc y = some b → ∃ C, mg y = some (.ref C) ∧ ExcC K C ∧ PySem.W.kitOne K (.ref C) u = some b
section
variable {G : Cfg} {F H : Hp} {v : V}
theorem Vw.exc {y : Str} {gs : List (Str × D)} (x : Ex F H) (h : Vw G F H v (.exc y gs)) : ∃ a C od fs, v = .ref a ∧ G.mg y = some (.ref C) ∧ H a = some (exo a C od) ∧ ErD H od fs ∧ DDf G.K G.mg F gs fs := by
  rcases h with h | ⟨p, o, rfl, h, q⟩
  · cases h with | exc m h q r => exact ⟨_, _, _, _, rfl, m, x _ _ h, q.imp id fun ⟨dx, z, w⟩ => ⟨dx, z, x _ _ w⟩, r⟩
  · cases o <;> exact q.elim
theorem upd_two {H : Hp} {a dx : Addr} {u o o' : HO} : upd (upd (upd H a u) dx o) a o' = upd (upd H dx o) a o' := by
  funext b
  by_cases h1 : b = a
  · subst h1; rw [upd_same, upd_same]
  · rw [upd_ne h1, upd_ne h1]
    by_cases h2 : b = dx
    · subst h2; rw [upd_same, upd_same]
    · rw [upd_ne h2, upd_ne h2, upd_ne h1]
theorem upd_swap {H : Hp} {a b : Addr} {o o' : HO} (h : a ≠ b) : upd (upd H a o) b o' = upd (upd H b o') a o := by
  funext c
  by_cases h1 : c = b
  · subst h1; rw [upd_same, upd_ne (Ne.symm h), upd_same]
  · rw [upd_ne h1]
    by_cases h2 : c = a
    · subst h2; rw [upd_same, upd_same]
    · rw [upd_ne h2, upd_ne h2, upd_ne h1]
theorem Rp.pushEr {σ : L2.St} {ls : LS} {vs : List V} {ks : List Slot} {a C dx : Addr} {y : Str} {gs : List (Str × D)} {fs : List (Str × V)} (R : Rp G F H σ ls vs ks) (ha : H a = none) (hd : H dx = none) (ne : dx ≠ a) (hm : G.mg y = some (.ref C)) (dd : DDf G.K G.mg F gs fs) :
    Rp G (upd (upd F dx (exd dx fs)) a (exo a C (some dx))) (upd (upd H dx (exd dx fs)) a (exo a C (some dx))) σ ls (.ref a :: vs) (.dat (.exc y gs) :: ks) := by
  have R1 := R.frzNew (o := exd dx fs) hd
  have h2 : upd H dx (exd dx fs) a = none := by rw [upd_ne (Ne.symm ne)]; exact ha
  have R2 := R1.frzNew (o := exo a C (some dx)) h2
  have x1 : Ex F (upd F dx (exd dx fs)) := Ex.upd (R.fresh hd).2
  have x2 : Ex (upd F dx (exd dx fs)) (upd (upd F dx (exd dx fs)) a (exo a C (some dx))) := Ex.upd (R1.fresh h2).2
  exact R2.pushDat (.exc hm upd_same (.inr ⟨dx, rfl, by rw [upd_ne ne]; exact upd_same⟩) (dd.mono (x1.trans x2)))
end
section
variable {X : Cx} {B : Base} {W : WX} {e o : Expr} {es : List Expr} {am : AM} {om : M} {pos p : Pos} {x f g n : Str} {C : Addr} {π : List V → List V} {c : Expr}
theorem e_er0 (h : L2.PE X e (fun σ H Q => ∀ a, H a = none → Q (.ref a) (upd H a (exo a C none)))) (hm : X.mg x = some (.ref C)) : L2.PE X e (tM (cfg X B) W (er0 x)) := PE.imp h fun σ H Q h => by
  obtain ⟨F, ls, vs, ks, R, po⟩ := h
  intro a ha
  have R1 := R.frzNew (o := exo a C none) ha
  exact po _ _ _ (R1.pushDat (.exc hm upd_same (.inl ⟨rfl, rfl⟩) .nil))
theorem e_er1 (h : L2.PE X e (tEr C 1 (spX1 C f) π (tA (cfg X B) W am))) (hπ : ∀ y, π [y] = [y]) (hm : X.mg x = some (.ref C)) : L2.PE X e (tM (cfg X B) W (er1 x f am)) := PE.imp h fun σ H Q h => by
  obtain ⟨F, ls, vs, ks, R, po⟩ := h
  refine ⟨F, ls, vs, ks, R, ?_⟩
  cases e1 : am ls with
  | stk => simp only [er1, e1, PostM] at po
  | err y ls1 =>
    simp only [er1, e1] at po
    exact fun cls d F' H' r' er => po cls d F' H' r' er
  | ok as ls1 =>
    simp only [er1, e1] at po
    intro ws F1 H1 hl R1
    split at po
    · rename_i d
      match ws, hl with
      | [y], _ =>
        obtain ⟨y', ey, dy⟩ := R1.good.head
        cases ey
        refine ⟨rfl, fun a ha => ⟨a, y, by rw [hπ], upd_same, fun dx hn ne => ⟨rfl, dx, [(f, y)], upd_same, by rw [upd_ne ne]; exact upd_same, ?_⟩⟩⟩
        rw [upd_ne ne] at hn
        rw [upd_two]
        exact po _ _ _ (R1.pop.pushEr ha hn ne hm (.cons dy .nil))
    · exact po.elim
theorem e_er2 {sw : Bool} (h : L2.PE X e (tEr C 2 (spX2 C f g) π (tA (cfg X B) W am))) (hπ : ∀ y z, π [y, z] = if sw then [z, y] else [y, z]) (hm : X.mg x = some (.ref C)) : L2.PE X e (tM (cfg X B) W (er2 sw x f g am)) := PE.imp h fun σ H Q h => by
  obtain ⟨F, ls, vs, ks, R, po⟩ := h
  refine ⟨F, ls, vs, ks, R, ?_⟩
  cases e1 : am ls with
  | stk => simp only [er2, e1, PostM] at po
  | err y ls1 =>
    simp only [er2, e1] at po
    exact fun cls d F' H' r' er => po cls d F' H' r' er
  | ok as ls1 =>
    simp only [er2, e1] at po
    intro ws F1 H1 hl R1
    split at po
    · rename_i d d'
      match ws, hl with
      | [y, z], _ =>
        obtain ⟨y', ey, dy⟩ := R1.good.head
        cases ey
        obtain ⟨z', ez, dz⟩ := R1.pop.good.head
        cases ez
        have fin : ∀ (a dx : Addr) (fs1 : List (Str × V)) (fs2 : List (Str × V)) (gs : List (Str × D)), H1 a = none → H1 dx = none → dx ≠ a → DDf X.K X.mg F1 gs fs2 → (∀ v F H, Rp (cfg X B) F H σ ls1 (v :: vs) (.dat (.exc x gs) :: ks) → Q v H) →
            Q (.ref a) (upd (upd (upd (upd H1 a (exo a C none)) dx (exd dx fs1)) a (exo a C (some dx))) dx (exd dx fs2)) := fun a dx fs1 fs2 gs ha hd ne dd q => by
          rw [upd_two, upd_swap (Ne.symm ne), upd_two]
          exact q _ _ _ (R1.pop.pop.pushEr ha hd ne hm dd)
        cases sw with
        | false =>
          refine ⟨rfl, fun a ha => ⟨a, y, z, by rw [hπ]; rfl, upd_same, fun dx hn ne => ⟨rfl, dx, [(g, z), (f, y)], by rw [upd_ne (Ne.symm ne)]; exact upd_same, upd_same, ?_⟩⟩⟩
          rw [upd_ne ne] at hn
          exact fin a dx _ _ _ ha hn ne (.cons dz (.cons dy .nil)) po
        | true =>
          refine ⟨rfl, fun a ha => ⟨a, z, y, by rw [hπ]; rfl, upd_same, fun dx hn ne => ⟨rfl, dx, [(g, y), (f, z)], by rw [upd_ne (Ne.symm ne)]; exact upd_same, upd_same, ?_⟩⟩⟩
          rw [upd_ne ne] at hn
          exact fin a dx _ _ _ ha hn ne (.cons dy (.cons dz .nil)) po
    · exact po.elim
theorem e_erF {xs : List Str} (ok : ErFOk X.K X.mg f xs) (ho : L2.PE X o (tM (cfg X B) W om)) (hb : attributeBase o f X.env (eval o X.env) = eval o X.env := by rfl) : L2.PE X (.Attribute o f pos) (tM (cfg X B) W (erF xs f om)) := PE.imp (pe_erF ho hb) fun σ H Q h => by
  refine tM_bind h fun F ls vs ks v H' k R po => ?_
  cases e1 : look ls k with
  | none => simp only [e1, PostM] at po
  | some d =>
    cases d with
    | exc y gs =>
      simp only [e1] at po
      split at po
      · rename_i hy
        obtain ⟨a, C, od, fs, rfl, hm, ha, er, hf⟩ := Vw.exc R.ex (R.view0 e1)
        obtain ⟨C', h1, h2, h3⟩ := ok.c y hy
        obtain rfl : C' = C := by
          have z := h1.symm.trans hm
          cases z; rfl
        rcases ddf_lookup (y := f) hf with ⟨z, _⟩ | ⟨d, v, z1, z2, z3⟩
        · rw [z] at po; exact po.elim
        · rw [z1] at po
          rcases er with ⟨_, rfl⟩ | ⟨dx, rfl, e3⟩
          · cases z2
          · exact ⟨a, _, dx, fs, v, rfl, ha, e3, h2, h3, z2, po _ _ _ (R.pop.pushDat z3)⟩
      · exact po.elim
    | _ => simp only [e1, PostM] at po
theorem e_isE {tc : Str → Option Bool} {cv : V} {u : Value} (ok : IsEOk X.K X.mg u tc) (k : ClsV cv u) (ho : L2.PE X o (tM (cfg X B) W om)) (hT : L2.PE X c (tC cv)) (hm : X.mg "isinstance" = none) (hg : Gl X "isinstance" := by rfl)
    (he : starEach [o, c] X.env = (false, eval o X.env) :: starEach [c] X.env := by rfl) (he2 : starEach [c] X.env = (false, eval c X.env) :: starEach [] X.env := by rfl) (hpl : (backTo pos (starEach [c] X.env)).any (·.1) = false := by rfl) :
    L2.PE X (.Call (.Name "isinstance" p) [o, c] [] pos) (tM (cfg X B) W (isE tc om)) :=
  PE.imp (pe_callB call_isEr hg hm PyProof.Rows.boot_isinstance (pa_cons ho (pa_cons hT pa_nil he2) he) (by decide) (by decide) he hpl) fun σ H Q h => by
    refine tM_bind h fun F ls vs ks v H' k' R po => ?_
    cases e1 : look ls k' with
    | none => simp only [e1, PostM] at po
    | some d =>
      cases d with
      | exc y gs =>
        simp only [e1] at po
        cases e2 : tc y with
        | none => simp only [e2, PostM] at po
        | some b =>
          simp only [e2] at po
          obtain ⟨a, C, od, fs, rfl, hm, ha, er, hf⟩ := Vw.exc R.ex (R.view0 e1)
          obtain ⟨C', h1, h2, h3⟩ := ok.c y b e2
          obtain rfl : C' = C := by
            have z := h1.symm.trans hm
            cases z; rfl
          exact ⟨a, cv, u, b, rfl, k, .inl ⟨_, od, fs, ha, er, h2, h3⟩, po _ _ _ (R.pop.pushDat (.bl b))⟩
      | _ => simp only [e1, PostM] at po
theorem e_isVE {b : Bool} {p2 pos2 : Pos} {cv : V} {u : Value} (hk : PySem.W.kitOne X.K (.type "ValueError") u = some b) (k : ClsV cv u) (hT : L2.PE X c (tC cv)) (hm : X.mg "isinstance" = none) (hv : X.mg "ValueError" = none) (hg : Gl X "isinstance" := by rfl) (hgv : Gl X "ValueError" := by rfl)
    (he : starEach [.Call (.Name "ValueError" p2) [] [] pos2, c] X.env = (false, eval (.Call (.Name "ValueError" p2) [] [] pos2) X.env) :: starEach [c] X.env := by rfl) (he2 : starEach [c] X.env = (false, eval c X.env) :: starEach [] X.env := by rfl) (hpl : (backTo pos (starEach [c] X.env)).any (·.1) = false := by rfl) :
    L2.PE X (.Call (.Name "isinstance" p) [.Call (.Name "ValueError" p2) [] [] pos2, c] [] pos) (tM (cfg X B) W (conM (.bl b))) :=
  PE.imp (pe_callB call_isEr hg hm PyProof.Rows.boot_isinstance (pa_cons (pe_ve0 hgv hv) (pa_cons hT pa_nil he2) he) (by decide) (by decide) he hpl) fun σ H Q h => by
    obtain ⟨F, ls, vs, ks, R, po⟩ := h
    intro a ha
    have R1 := R.frzNew (o := exv a) ha
    exact ⟨a, cv, u, b, rfl, k, .inr ⟨upd_same, hk⟩, po _ _ _ (R1.pushDat (.bl b))⟩
end
section
variable {X : Cx} {B : Base} {W : WX} {e : Expr} {m : M} {am : AM} {kws : List Keyword} {nm : Option Str} {kp : Pos}
theorem k_nilA : L2.PK X [] (tA (cfg X B) W nilA) := ⟨fun pos pins s σ H Q I h => by
  obtain ⟨F, ls, vs, ks, r, po⟩ := h
  exact pk_nil.run pos pins s σ H Q I (po [] F H rfl r)⟩
theorem k_consA (ha : L2.PE X e (tM (cfg X B) W m)) (hr : L2.PK X kws (tA (cfg X B) W am)) : L2.PK X (⟨nm, e, kp⟩ :: kws) (tA (cfg X B) W (consA m am)) := ⟨fun pos pins s σ H Q I h => (pk_cons ha hr).run pos pins s σ H Q I (imp_cons h)⟩
end
def tcE (xs : List Str) (t : Str → Bool) (y : Str) : Option Bool := if y ∈ xs then some (t y) else none
section
variable {bk : List (Frag → Bool)} {fn : List Df} {K : Frag} {mg : Str → Option Value}
theorem isE_ok (c : Hd bk fn K mg) (i j : Nat) {u : Frag → Value} {xs : List Str} {t : Str → Bool} (e1 : bk[i]? = some (kErI xs) := by rfl) (e2 : bk[j]? = some (kErT u xs t) := by rfl) : IsEOk K mg (u K) (tcE xs t) := ⟨fun y b e => by
  unfold tcE at e
  split at e
  · rename_i hy
    cases e
    obtain ⟨h1, _, h3⟩ := c.erI i e1 hy
    exact ⟨_, h1, h3, c.erT j e2 hy⟩
  · cases e⟩
theorem erF_ok (c : Hd bk fn K mg) (i j : Nat) {xs : List Str} {x f : Str} (hx : x ∈ xs) (e1 : bk[i]? = some (kErI xs) := by rfl) (e2 : bk[j]? = some (kNoat x f) := by rfl) : ErFOk K mg f [x] := ⟨fun y hy => by
  obtain rfl : y = x := by simpa using hy
  obtain ⟨h1, h2, _⟩ := c.erI i e1 hx
  exact ⟨_, h1, h2, c.noat j e2⟩⟩
theorem kbinds_kwd2 {x qual : Str} {st : Stmt} {f : Addr} {fd : FuncData} {ps : List Str} {y1 y2 : Str} {n : Nat} (F : L2.Fun K x qual st f fd)
    (h : ∀ (kV doc pm : Value) (an : Option Addr) (cdv ct : Value) (us : List Value) (v1 v2 : Value), us.length = n →
      bindArgs (PySem.W.fnOf x qual (defArgs st) (defBody st) (defScope st) .none kV doc pm an cdv ct) ⟨us, [(y1, v1), (y2, v2)]⟩ = pure (ps.zip (us ++ [v2, v1]))) : KBn K fd ps n [y1, y2] (fun us ws => us ++ ws.reverse) (fun vs zs => vs ++ zs.reverse) := by
  obtain ⟨oc, od, kV, doc, pm, an, cdv, ct, osl, rfl, lk, hcd⟩ := F.ex
  refine ⟨fun s us ws X l1 l2 => ?_, fun r1 r2 => r1.append r2.reverse⟩
  match ws, l2 with
  | [v1, v2], _ => exact .of_eq (h kV doc pm an cdv ct us v1 v2 l1)
end
end VM
namespace VM
open PySem PySem.Spec L2
section
variable {x f g n : Str} {am : AM} {m : M} {ls ls1 : LS} {d d' r : D} {k : Slot} {sw : Bool} {tc : Str → Option Bool} {c : Bool} {xn : Exn} {xs : List Str}
theorem v_er0 : er0 x ls = .ok (.dat (.exc x [])) ls := rfl
theorem v_er1 (h : am ls = .ok [.dat d] ls1) : er1 x f am ls = .ok (.dat (.exc x [(f, d)])) ls1 := by simp only [er1, h]
theorem v_er2 (h : am ls = .ok [.dat d, .dat d'] ls1) : er2 sw x f g am ls = .ok (.dat (.exc x (if sw then [(g, d), (f, d')] else [(g, d'), (f, d)]))) ls1 := by simp only [er2, h]
theorem v_erF1 (h : am ls = .ok [.dat d] ls1) : erF [x] f (er1 x f am) ls = .ok (.dat d) ls1 := by
  unfold erF
  rw [v_er1 h]
  show (if x ∈ [x] then _ else _) = _
  rw [if_pos (List.mem_singleton.mpr rfl)]
  simp only [List.lookup, beq_self_eq_true]
theorem v_erF2 (h : am ls = .ok [.dat d, .dat d'] ls1) (e : (if sw then [(g, d), (f, d')] else [(g, d'), (f, d)]).lookup n = some r) : erF [x] n (er2 sw x f g am) ls = .ok (.dat r) ls1 := by
  unfold erF
  rw [v_er2 h]
  show (if x ∈ [x] then _ else _) = _
  rw [if_pos (List.mem_singleton.mpr rfl)]
  simp only [e]
def isX (tc : Str → Option Bool) : D → Option Bool
  | .exc y _ => tc y
  | _ => none
theorem v_isE (h : m ls = .ok k ls1) (l : look ls1 k = some d) (e : isX tc d = some c) : isE tc m ls = .ok (.dat (.bl c)) ls1 := by
  cases d <;> first | (cases e; done) | skip
  rename_i y gs
  have e : tc y = some c := e
  simp only [isE, h, R.bind, l, e]
end
end VM
set_option maxHeartbeats 4000000
namespace VM
open PySem PySem.Spec L2
section
variable {P : Program} {w : World} {K : Frag} {mg : Str → Option Value} {base : Heap}
theorem xi_BadCount (c : Hd bk fn K mg) : ∃ fd, FnOk P w K mg base (L2.CX P w) 1 (mA "BadCount" "__init__" K) fd ["self", "at"] (spX1 (gA "BadCount" K) "at") ∧ Binds K fd ["self", "at"] [] ∧ KBn K fd ["self", "at"] 1 ["at"] (fun us ws => us ++ ws) (fun vs zs => vs ++ zs) := by
  obtain ⟨fd, _, F⟩ := c.fnAt 0 (d := d_BadCount___init__)
  exact ⟨fd, xinit1 F ⟨rfl, rfl, rfl, by decide +kernel, rfl, by decide +kernel, by decide +kernel⟩ (c.oex 2) (c.noat 3) rfl, F.binds fun _ _ _ _ _ _ us hl => match us, hl with | [_, _], _ => rfl, kbinds_kwd F (fun kV doc pm an cdv ct us v hl => match us, hl with | [_], _ => rfl)⟩
theorem xi_BadEntry (c : Hd bk fn K mg) : ∃ fd, FnOk P w K mg base (L2.CX P w) 1 (mA "BadEntry" "__init__" K) fd ["self", "at"] (spX1 (gA "BadEntry" K) "at") ∧ Binds K fd ["self", "at"] [] ∧ KBn K fd ["self", "at"] 1 ["at"] (fun us ws => us ++ ws) (fun vs zs => vs ++ zs) := by
  obtain ⟨fd, _, F⟩ := c.fnAt 1 (d := d_BadEntry___init__)
  exact ⟨fd, xinit1 F ⟨rfl, rfl, rfl, by decide +kernel, rfl, by decide +kernel, by decide +kernel⟩ (c.oex 8) (c.noat 9) rfl, F.binds fun _ _ _ _ _ _ us hl => match us, hl with | [_, _], _ => rfl, kbinds_kwd F (fun kV doc pm an cdv ct us v hl => match us, hl with | [_], _ => rfl)⟩
theorem xi_BadJump (c : Hd bk fn K mg) : ∃ fd, FnOk P w K mg base (L2.CX P w) 1 (mA "BadJump" "__init__" K) fd ["self", "at"] (spX1 (gA "BadJump" K) "at") ∧ Binds K fd ["self", "at"] [] ∧ KBn K fd ["self", "at"] 1 ["at"] (fun us ws => us ++ ws) (fun vs zs => vs ++ zs) := by
  obtain ⟨fd, _, F⟩ := c.fnAt 2 (d := d_BadJump___init__)
  exact ⟨fd, xinit1 F ⟨rfl, rfl, rfl, by decide +kernel, rfl, by decide +kernel, by decide +kernel⟩ (c.oex 14) (c.noat 15) rfl, F.binds fun _ _ _ _ _ _ us hl => match us, hl with | [_, _], _ => rfl, kbinds_kwd F (fun kV doc pm an cdv ct us v hl => match us, hl with | [_], _ => rfl)⟩
theorem xi_BadProgram (c : Hd bk fn K mg) : ∃ fd, FnOk P w K mg base (L2.CX P w) 1 (mA "BadProgram" "__init__" K) fd ["self", "at"] (spX1 (gA "BadProgram" K) "at") ∧ Binds K fd ["self", "at"] [] ∧ KBn K fd ["self", "at"] 1 ["at"] (fun us ws => us ++ ws) (fun vs zs => vs ++ zs) := by
  obtain ⟨fd, _, F⟩ := c.fnAt 3 (d := d_BadProgram___init__)
  exact ⟨fd, xinit1 F ⟨rfl, rfl, rfl, by decide +kernel, rfl, by decide +kernel, by decide +kernel⟩ (c.oex 20) (c.noat 21) rfl, F.binds fun _ _ _ _ _ _ us hl => match us, hl with | [_, _], _ => rfl, kbinds_kwd F (fun kV doc pm an cdv ct us v hl => match us, hl with | [_], _ => rfl)⟩
theorem xi_BadText (c : Hd bk fn K mg) : ∃ fd, FnOk P w K mg base (L2.CX P w) 1 (mA "BadText" "__init__" K) fd ["self", "line"] (spX1 (gA "BadText" K) "line") ∧ Binds K fd ["self", "line"] [] ∧ KBn K fd ["self", "line"] 1 ["line"] (fun us ws => us ++ ws) (fun vs zs => vs ++ zs) := by
  obtain ⟨fd, _, F⟩ := c.fnAt 4 (d := d_BadText___init__)
  exact ⟨fd, xinit1 F ⟨rfl, rfl, rfl, by decide +kernel, rfl, by decide +kernel, by decide +kernel⟩ (c.oex 24) (c.noat 25) rfl, F.binds fun _ _ _ _ _ _ us hl => match us, hl with | [_, _], _ => rfl, kbinds_kwd F (fun kV doc pm an cdv ct us v hl => match us, hl with | [_], _ => rfl)⟩
theorem xi_NoBlock (c : Hd bk fn K mg) : ∃ fd, FnOk P w K mg base (L2.CX P w) 1 (mA "NoBlock" "__init__" K) fd ["self", "block"] (spX1 (gA "NoBlock" K) "block") ∧ Binds K fd ["self", "block"] [] ∧ KBn K fd ["self", "block"] 1 ["block"] (fun us ws => us ++ ws) (fun vs zs => vs ++ zs) := by
  obtain ⟨fd, _, F⟩ := c.fnAt 5 (d := d_NoBlock___init__)
  exact ⟨fd, xinit1 F ⟨rfl, rfl, rfl, by decide +kernel, rfl, by decide +kernel, by decide +kernel⟩ (c.oex 28) (c.noat 29) rfl, F.binds fun _ _ _ _ _ _ us hl => match us, hl with | [_, _], _ => rfl, kbinds_kwd F (fun kV doc pm an cdv ct us v hl => match us, hl with | [_], _ => rfl)⟩
theorem xi_NoItem (c : Hd bk fn K mg) : ∃ fd, FnOk P w K mg base (L2.CX P w) 1 (mA "NoItem" "__init__" K) fd ["self", "item"] (spX1 (gA "NoItem" K) "item") ∧ Binds K fd ["self", "item"] [] ∧ KBn K fd ["self", "item"] 1 ["item"] (fun us ws => us ++ ws) (fun vs zs => vs ++ zs) := by
  obtain ⟨fd, _, F⟩ := c.fnAt 6 (d := d_NoItem___init__)
  exact ⟨fd, xinit1 F ⟨rfl, rfl, rfl, by decide +kernel, rfl, by decide +kernel, by decide +kernel⟩ (c.oex 36) (c.noat 37) rfl, F.binds fun _ _ _ _ _ _ us hl => match us, hl with | [_, _], _ => rfl, kbinds_kwd F (fun kV doc pm an cdv ct us v hl => match us, hl with | [_], _ => rfl)⟩
theorem xi_NoJump (c : Hd bk fn K mg) : ∃ fd, FnOk P w K mg base (L2.CX P w) 1 (mA "NoJump" "__init__" K) fd ["self", "jump"] (spX1 (gA "NoJump" K) "jump") ∧ Binds K fd ["self", "jump"] [] ∧ KBn K fd ["self", "jump"] 1 ["jump"] (fun us ws => us ++ ws) (fun vs zs => vs ++ zs) := by
  obtain ⟨fd, _, F⟩ := c.fnAt 7 (d := d_NoJump___init__)
  exact ⟨fd, xinit1 F ⟨rfl, rfl, rfl, by decide +kernel, rfl, by decide +kernel, by decide +kernel⟩ (c.oex 40) (c.noat 41) rfl, F.binds fun _ _ _ _ _ _ us hl => match us, hl with | [_, _], _ => rfl, kbinds_kwd F (fun kV doc pm an cdv ct us v hl => match us, hl with | [_], _ => rfl)⟩
theorem xi_NoMark (c : Hd bk fn K mg) : ∃ fd, FnOk P w K mg base (L2.CX P w) 1 (mA "NoMark" "__init__" K) fd ["self", "number"] (spX1 (gA "NoMark" K) "number") ∧ Binds K fd ["self", "number"] [] ∧ KBn K fd ["self", "number"] 1 ["number"] (fun us ws => us ++ ws) (fun vs zs => vs ++ zs) := by
  obtain ⟨fd, _, F⟩ := c.fnAt 8 (d := d_NoMark___init__)
  exact ⟨fd, xinit1 F ⟨rfl, rfl, rfl, by decide +kernel, rfl, by decide +kernel, by decide +kernel⟩ (c.oex 44) (c.noat 45) rfl, F.binds fun _ _ _ _ _ _ us hl => match us, hl with | [_, _], _ => rfl, kbinds_kwd F (fun kV doc pm an cdv ct us v hl => match us, hl with | [_], _ => rfl)⟩
theorem xi_NoRun (c : Hd bk fn K mg) : ∃ fd, FnOk P w K mg base (L2.CX P w) 1 (mA "NoRun" "__init__" K) fd ["self", "run"] (spX1 (gA "NoRun" K) "run") ∧ Binds K fd ["self", "run"] [] ∧ KBn K fd ["self", "run"] 1 ["run"] (fun us ws => us ++ ws) (fun vs zs => vs ++ zs) := by
  obtain ⟨fd, _, F⟩ := c.fnAt 9 (d := d_NoRun___init__)
  exact ⟨fd, xinit1 F ⟨rfl, rfl, rfl, by decide +kernel, rfl, by decide +kernel, by decide +kernel⟩ (c.oex 48) (c.noat 49) rfl, F.binds fun _ _ _ _ _ _ us hl => match us, hl with | [_, _], _ => rfl, kbinds_kwd F (fun kV doc pm an cdv ct us v hl => match us, hl with | [_], _ => rfl)⟩
theorem xi_NotEnough (c : Hd bk fn K mg) : ∃ fd, FnOk P w K mg base (L2.CX P w) 1 (mA "NotEnough" "__init__" K) fd ["self", "run"] (spX1 (gA "NotEnough" K) "run") ∧ Binds K fd ["self", "run"] [] ∧ KBn K fd ["self", "run"] 1 ["run"] (fun us ws => us ++ ws) (fun vs zs => vs ++ zs) := by
  obtain ⟨fd, _, F⟩ := c.fnAt 10 (d := d_NotEnough___init__)
  exact ⟨fd, xinit1 F ⟨rfl, rfl, rfl, by decide +kernel, rfl, by decide +kernel, by decide +kernel⟩ (c.oex 52) (c.noat 53) rfl, F.binds fun _ _ _ _ _ _ us hl => match us, hl with | [_, _], _ => rfl, kbinds_kwd F (fun kV doc pm an cdv ct us v hl => match us, hl with | [_], _ => rfl)⟩
theorem xi_NotInner (c : Hd bk fn K mg) : ∃ fd, FnOk P w K mg base (L2.CX P w) 1 (mA "NotInner" "__init__" K) fd ["self", "block"] (spX1 (gA "NotInner" K) "block") ∧ Binds K fd ["self", "block"] [] ∧ KBn K fd ["self", "block"] 1 ["block"] (fun us ws => us ++ ws) (fun vs zs => vs ++ zs) := by
  obtain ⟨fd, _, F⟩ := c.fnAt 11 (d := d_NotInner___init__)
  exact ⟨fd, xinit1 F ⟨rfl, rfl, rfl, by decide +kernel, rfl, by decide +kernel, by decide +kernel⟩ (c.oex 56) (c.noat 57) rfl, F.binds fun _ _ _ _ _ _ us hl => match us, hl with | [_, _], _ => rfl, kbinds_kwd F (fun kV doc pm an cdv ct us v hl => match us, hl with | [_], _ => rfl)⟩
theorem xi_NotPassed (c : Hd bk fn K mg) : ∃ fd, FnOk P w K mg base (L2.CX P w) 1 (mA "NotPassed" "__init__" K) fd ["self", "block"] (spX1 (gA "NotPassed" K) "block") ∧ Binds K fd ["self", "block"] [] ∧ KBn K fd ["self", "block"] 1 ["block"] (fun us ws => us ++ ws) (fun vs zs => vs ++ zs) := by
  obtain ⟨fd, _, F⟩ := c.fnAt 12 (d := d_NotPassed___init__)
  exact ⟨fd, xinit1 F ⟨rfl, rfl, rfl, by decide +kernel, rfl, by decide +kernel, by decide +kernel⟩ (c.oex 60) (c.noat 61) rfl, F.binds fun _ _ _ _ _ _ us hl => match us, hl with | [_, _], _ => rfl, kbinds_kwd F (fun kV doc pm an cdv ct us v hl => match us, hl with | [_], _ => rfl)⟩
theorem xi_NotPossible (c : Hd bk fn K mg) : ∃ fd, FnOk P w K mg base (L2.CX P w) 1 (mA "NotPossible" "__init__" K) fd ["self", "least", "greatest"] (spX2 (gA "NotPossible" K) "least" "greatest") ∧ Binds K fd ["self", "least", "greatest"] [] ∧ KBn K fd ["self", "least", "greatest"] 1 ["greatest", "least"] (fun us ws => us ++ ws.reverse) (fun vs zs => vs ++ zs.reverse) := by
  obtain ⟨fd, _, F⟩ := c.fnAt 13 (d := d_NotPossible___init__)
  exact ⟨fd, xinit2 F ⟨rfl, rfl, rfl, by decide +kernel, rfl, by decide +kernel, by decide +kernel⟩ (c.oex 64) (c.noat 65) (c.noat 66) rfl, F.binds fun _ _ _ _ _ _ us hl => match us, hl with | [_, _, _], _ => rfl, kbinds_kwd2 F (fun kV doc pm an cdv ct us v w hl => match us, hl with | [_], _ => rfl)⟩
theorem xi_NotSeen (c : Hd bk fn K mg) : ∃ fd, FnOk P w K mg base (L2.CX P w) 1 (mA "NotSeen" "__init__" K) fd ["self", "jump"] (spX1 (gA "NotSeen" K) "jump") ∧ Binds K fd ["self", "jump"] [] ∧ KBn K fd ["self", "jump"] 1 ["jump"] (fun us ws => us ++ ws) (fun vs zs => vs ++ zs) := by
  obtain ⟨fd, _, F⟩ := c.fnAt 14 (d := d_NotSeen___init__)
  exact ⟨fd, xinit1 F ⟨rfl, rfl, rfl, by decide +kernel, rfl, by decide +kernel, by decide +kernel⟩ (c.oex 69) (c.noat 70) rfl, F.binds fun _ _ _ _ _ _ us hl => match us, hl with | [_, _], _ => rfl, kbinds_kwd F (fun kV doc pm an cdv ct us v hl => match us, hl with | [_], _ => rfl)⟩
theorem xi_OtherCounts (c : Hd bk fn K mg) : ∃ fd, FnOk P w K mg base (L2.CX P w) 1 (mA "OtherCounts" "__init__" K) fd ["self", "jump"] (spX1 (gA "OtherCounts" K) "jump") ∧ Binds K fd ["self", "jump"] [] ∧ KBn K fd ["self", "jump"] 1 ["jump"] (fun us ws => us ++ ws) (fun vs zs => vs ++ zs) := by
  obtain ⟨fd, _, F⟩ := c.fnAt 15 (d := d_OtherCounts___init__)
  exact ⟨fd, xinit1 F ⟨rfl, rfl, rfl, by decide +kernel, rfl, by decide +kernel, by decide +kernel⟩ (c.oex 75) (c.noat 76) rfl, F.binds fun _ _ _ _ _ _ us hl => match us, hl with | [_, _], _ => rfl, kbinds_kwd F (fun kV doc pm an cdv ct us v hl => match us, hl with | [_], _ => rfl)⟩
theorem xi_TooLarge (c : Hd bk fn K mg) : ∃ fd, FnOk P w K mg base (L2.CX P w) 1 (mA "TooLarge" "__init__" K) fd ["self", "bound"] (spX1 (gA "TooLarge" K) "bound") ∧ Binds K fd ["self", "bound"] [] ∧ KBn K fd ["self", "bound"] 1 ["bound"] (fun us ws => us ++ ws) (fun vs zs => vs ++ zs) := by
  obtain ⟨fd, _, F⟩ := c.fnAt 16 (d := d_TooLarge___init__)
  exact ⟨fd, xinit1 F ⟨rfl, rfl, rfl, by decide +kernel, rfl, by decide +kernel, by decide +kernel⟩ (c.oex 81) (c.noat 82) rfl, F.binds fun _ _ _ _ _ _ us hl => match us, hl with | [_, _], _ => rfl, kbinds_kwd F (fun kV doc pm an cdv ct us v hl => match us, hl with | [_], _ => rfl)⟩
theorem xi_Uneven (c : Hd bk fn K mg) : ∃ fd, FnOk P w K mg base (L2.CX P w) 1 (mA "Uneven" "__init__" K) fd ["self", "block"] (spX1 (gA "Uneven" K) "block") ∧ Binds K fd ["self", "block"] [] ∧ KBn K fd ["self", "block"] 1 ["block"] (fun us ws => us ++ ws) (fun vs zs => vs ++ zs) := by
  obtain ⟨fd, _, F⟩ := c.fnAt 17 (d := d_Uneven___init__)
  exact ⟨fd, xinit1 F ⟨rfl, rfl, rfl, by decide +kernel, rfl, by decide +kernel, by decide +kernel⟩ (c.oex 85) (c.noat 86) rfl, F.binds fun _ _ _ _ _ _ us hl => match us, hl with | [_, _], _ => rfl, kbinds_kwd F (fun kV doc pm an cdv ct us v hl => match us, hl with | [_], _ => rfl)⟩
def m0__law_kinds : List Slot → RF := funM 2
    (fz0 0 (seqM (fzS 1 (asgM 1 (lstM (consA (frzM (isE (tcE ["BadBlocks", "BadJump", "TooLarge", "NoBlock", "NoJump", "NoRun", "NoItem", "NotInner", "OtherRoutine", "BadCount", "Uneven", "BadNumber", "BadEntry", "NotPassed", "NotEnough", "NoCeiling", "NoFloor", "NotPossible", "NotSeen", "OtherCounts", "BadCover", "BadIns", "NotTwins", "BadProgram", "NoMark", "BadText"] (fun y => y == "BadBlocks")) (varM 0))) (consA (frzM (isE (tcE ["BadBlocks", "BadJump", "TooLarge", "NoBlock", "NoJump", "NoRun", "NoItem", "NotInner", "OtherRoutine", "BadCount", "Uneven", "BadNumber", "BadEntry", "NotPassed", "NotEnough", "NoCeiling", "NoFloor", "NotPossible", "NotSeen", "OtherCounts", "BadCover", "BadIns", "NotTwins", "BadProgram", "NoMark", "BadText"] (fun y => y == "BadCount")) (varM 0))) (consA (frzM (isE (tcE ["BadBlocks", "BadJump", "TooLarge", "NoBlock", "NoJump", "NoRun", "NoItem", "NotInner", "OtherRoutine", "BadCount", "Uneven", "BadNumber", "BadEntry", "NotPassed", "NotEnough", "NoCeiling", "NoFloor", "NotPossible", "NotSeen", "OtherCounts", "BadCover", "BadIns", "NotTwins", "BadProgram", "NoMark", "BadText"] (fun y => y == "BadCover")) (varM 0))) nilA))))))
    (seqM (fzS 1 (asgM 1 (binM addD (varM 1) (lstM (consA (frzM (isE (tcE ["BadBlocks", "BadJump", "TooLarge", "NoBlock", "NoJump", "NoRun", "NoItem", "NotInner", "OtherRoutine", "BadCount", "Uneven", "BadNumber", "BadEntry", "NotPassed", "NotEnough", "NoCeiling", "NoFloor", "NotPossible", "NotSeen", "OtherCounts", "BadCover", "BadIns", "NotTwins", "BadProgram", "NoMark", "BadText"] (fun y => y == "BadEntry")) (varM 0))) (consA (frzM (isE (tcE ["BadBlocks", "BadJump", "TooLarge", "NoBlock", "NoJump", "NoRun", "NoItem", "NotInner", "OtherRoutine", "BadCount", "Uneven", "BadNumber", "BadEntry", "NotPassed", "NotEnough", "NoCeiling", "NoFloor", "NotPossible", "NotSeen", "OtherCounts", "BadCover", "BadIns", "NotTwins", "BadProgram", "NoMark", "BadText"] (fun y => y == "BadIns")) (varM 0))) (consA (frzM (isE (tcE ["BadBlocks", "BadJump", "TooLarge", "NoBlock", "NoJump", "NoRun", "NoItem", "NotInner", "OtherRoutine", "BadCount", "Uneven", "BadNumber", "BadEntry", "NotPassed", "NotEnough", "NoCeiling", "NoFloor", "NotPossible", "NotSeen", "OtherCounts", "BadCover", "BadIns", "NotTwins", "BadProgram", "NoMark", "BadText"] (fun y => y == "BadJump")) (varM 0))) nilA)))))))
    (seqM (fzS 1 (asgM 1 (binM addD (varM 1) (lstM (consA (frzM (isE (tcE ["BadBlocks", "BadJump", "TooLarge", "NoBlock", "NoJump", "NoRun", "NoItem", "NotInner", "OtherRoutine", "BadCount", "Uneven", "BadNumber", "BadEntry", "NotPassed", "NotEnough", "NoCeiling", "NoFloor", "NotPossible", "NotSeen", "OtherCounts", "BadCover", "BadIns", "NotTwins", "BadProgram", "NoMark", "BadText"] (fun y => y == "BadNumber")) (varM 0))) (consA (frzM (isE (tcE ["BadBlocks", "BadJump", "TooLarge", "NoBlock", "NoJump", "NoRun", "NoItem", "NotInner", "OtherRoutine", "BadCount", "Uneven", "BadNumber", "BadEntry", "NotPassed", "NotEnough", "NoCeiling", "NoFloor", "NotPossible", "NotSeen", "OtherCounts", "BadCover", "BadIns", "NotTwins", "BadProgram", "NoMark", "BadText"] (fun y => y == "BadProgram")) (varM 0))) nilA))))))
    (seqM (fzS 1 (asgM 1 (binM addD (varM 1) (lstM (consA (frzM (isE (tcE ["BadBlocks", "BadJump", "TooLarge", "NoBlock", "NoJump", "NoRun", "NoItem", "NotInner", "OtherRoutine", "BadCount", "Uneven", "BadNumber", "BadEntry", "NotPassed", "NotEnough", "NoCeiling", "NoFloor", "NotPossible", "NotSeen", "OtherCounts", "BadCover", "BadIns", "NotTwins", "BadProgram", "NoMark", "BadText"] (fun y => y == "BadText")) (varM 0))) (consA (frzM (isE (tcE ["BadBlocks", "BadJump", "TooLarge", "NoBlock", "NoJump", "NoRun", "NoItem", "NotInner", "OtherRoutine", "BadCount", "Uneven", "BadNumber", "BadEntry", "NotPassed", "NotEnough", "NoCeiling", "NoFloor", "NotPossible", "NotSeen", "OtherCounts", "BadCover", "BadIns", "NotTwins", "BadProgram", "NoMark", "BadText"] (fun y => y == "NoBlock")) (varM 0))) nilA))))))
    (seqM (fzS 1 (asgM 1 (binM addD (varM 1) (lstM (consA (frzM (isE (tcE ["BadBlocks", "BadJump", "TooLarge", "NoBlock", "NoJump", "NoRun", "NoItem", "NotInner", "OtherRoutine", "BadCount", "Uneven", "BadNumber", "BadEntry", "NotPassed", "NotEnough", "NoCeiling", "NoFloor", "NotPossible", "NotSeen", "OtherCounts", "BadCover", "BadIns", "NotTwins", "BadProgram", "NoMark", "BadText"] (fun y => y == "NoCeiling")) (varM 0))) (consA (frzM (isE (tcE ["BadBlocks", "BadJump", "TooLarge", "NoBlock", "NoJump", "NoRun", "NoItem", "NotInner", "OtherRoutine", "BadCount", "Uneven", "BadNumber", "BadEntry", "NotPassed", "NotEnough", "NoCeiling", "NoFloor", "NotPossible", "NotSeen", "OtherCounts", "BadCover", "BadIns", "NotTwins", "BadProgram", "NoMark", "BadText"] (fun y => y == "NoFloor")) (varM 0))) (consA (frzM (isE (tcE ["BadBlocks", "BadJump", "TooLarge", "NoBlock", "NoJump", "NoRun", "NoItem", "NotInner", "OtherRoutine", "BadCount", "Uneven", "BadNumber", "BadEntry", "NotPassed", "NotEnough", "NoCeiling", "NoFloor", "NotPossible", "NotSeen", "OtherCounts", "BadCover", "BadIns", "NotTwins", "BadProgram", "NoMark", "BadText"] (fun y => y == "NoItem")) (varM 0))) nilA)))))))
    (seqM (fzS 1 (asgM 1 (binM addD (varM 1) (lstM (consA (frzM (isE (tcE ["BadBlocks", "BadJump", "TooLarge", "NoBlock", "NoJump", "NoRun", "NoItem", "NotInner", "OtherRoutine", "BadCount", "Uneven", "BadNumber", "BadEntry", "NotPassed", "NotEnough", "NoCeiling", "NoFloor", "NotPossible", "NotSeen", "OtherCounts", "BadCover", "BadIns", "NotTwins", "BadProgram", "NoMark", "BadText"] (fun y => y == "NoJump")) (varM 0))) (consA (frzM (isE (tcE ["BadBlocks", "BadJump", "TooLarge", "NoBlock", "NoJump", "NoRun", "NoItem", "NotInner", "OtherRoutine", "BadCount", "Uneven", "BadNumber", "BadEntry", "NotPassed", "NotEnough", "NoCeiling", "NoFloor", "NotPossible", "NotSeen", "OtherCounts", "BadCover", "BadIns", "NotTwins", "BadProgram", "NoMark", "BadText"] (fun y => y == "NoMark")) (varM 0))) (consA (frzM (isE (tcE ["BadBlocks", "BadJump", "TooLarge", "NoBlock", "NoJump", "NoRun", "NoItem", "NotInner", "OtherRoutine", "BadCount", "Uneven", "BadNumber", "BadEntry", "NotPassed", "NotEnough", "NoCeiling", "NoFloor", "NotPossible", "NotSeen", "OtherCounts", "BadCover", "BadIns", "NotTwins", "BadProgram", "NoMark", "BadText"] (fun y => y == "NoRun")) (varM 0))) nilA)))))))
    (seqM (fzS 1 (asgM 1 (binM addD (varM 1) (lstM (consA (frzM (isE (tcE ["BadBlocks", "BadJump", "TooLarge", "NoBlock", "NoJump", "NoRun", "NoItem", "NotInner", "OtherRoutine", "BadCount", "Uneven", "BadNumber", "BadEntry", "NotPassed", "NotEnough", "NoCeiling", "NoFloor", "NotPossible", "NotSeen", "OtherCounts", "BadCover", "BadIns", "NotTwins", "BadProgram", "NoMark", "BadText"] (fun y => y == "NotEnough")) (varM 0))) (consA (frzM (isE (tcE ["BadBlocks", "BadJump", "TooLarge", "NoBlock", "NoJump", "NoRun", "NoItem", "NotInner", "OtherRoutine", "BadCount", "Uneven", "BadNumber", "BadEntry", "NotPassed", "NotEnough", "NoCeiling", "NoFloor", "NotPossible", "NotSeen", "OtherCounts", "BadCover", "BadIns", "NotTwins", "BadProgram", "NoMark", "BadText"] (fun y => y == "NotInner")) (varM 0))) (consA (frzM (isE (tcE ["BadBlocks", "BadJump", "TooLarge", "NoBlock", "NoJump", "NoRun", "NoItem", "NotInner", "OtherRoutine", "BadCount", "Uneven", "BadNumber", "BadEntry", "NotPassed", "NotEnough", "NoCeiling", "NoFloor", "NotPossible", "NotSeen", "OtherCounts", "BadCover", "BadIns", "NotTwins", "BadProgram", "NoMark", "BadText"] (fun y => y == "NotPassed")) (varM 0))) nilA)))))))
    (seqM (fzS 1 (asgM 1 (binM addD (varM 1) (lstM (consA (frzM (isE (tcE ["BadBlocks", "BadJump", "TooLarge", "NoBlock", "NoJump", "NoRun", "NoItem", "NotInner", "OtherRoutine", "BadCount", "Uneven", "BadNumber", "BadEntry", "NotPassed", "NotEnough", "NoCeiling", "NoFloor", "NotPossible", "NotSeen", "OtherCounts", "BadCover", "BadIns", "NotTwins", "BadProgram", "NoMark", "BadText"] (fun y => y == "NotPossible")) (varM 0))) (consA (frzM (isE (tcE ["BadBlocks", "BadJump", "TooLarge", "NoBlock", "NoJump", "NoRun", "NoItem", "NotInner", "OtherRoutine", "BadCount", "Uneven", "BadNumber", "BadEntry", "NotPassed", "NotEnough", "NoCeiling", "NoFloor", "NotPossible", "NotSeen", "OtherCounts", "BadCover", "BadIns", "NotTwins", "BadProgram", "NoMark", "BadText"] (fun y => y == "NotSeen")) (varM 0))) (consA (frzM (isE (tcE ["BadBlocks", "BadJump", "TooLarge", "NoBlock", "NoJump", "NoRun", "NoItem", "NotInner", "OtherRoutine", "BadCount", "Uneven", "BadNumber", "BadEntry", "NotPassed", "NotEnough", "NoCeiling", "NoFloor", "NotPossible", "NotSeen", "OtherCounts", "BadCover", "BadIns", "NotTwins", "BadProgram", "NoMark", "BadText"] (fun y => y == "NotTwins")) (varM 0))) nilA)))))))
    (seqM (fzS 1 (asgM 1 (binM addD (varM 1) (lstM (consA (frzM (isE (tcE ["BadBlocks", "BadJump", "TooLarge", "NoBlock", "NoJump", "NoRun", "NoItem", "NotInner", "OtherRoutine", "BadCount", "Uneven", "BadNumber", "BadEntry", "NotPassed", "NotEnough", "NoCeiling", "NoFloor", "NotPossible", "NotSeen", "OtherCounts", "BadCover", "BadIns", "NotTwins", "BadProgram", "NoMark", "BadText"] (fun y => y == "OtherCounts")) (varM 0))) (consA (frzM (isE (tcE ["BadBlocks", "BadJump", "TooLarge", "NoBlock", "NoJump", "NoRun", "NoItem", "NotInner", "OtherRoutine", "BadCount", "Uneven", "BadNumber", "BadEntry", "NotPassed", "NotEnough", "NoCeiling", "NoFloor", "NotPossible", "NotSeen", "OtherCounts", "BadCover", "BadIns", "NotTwins", "BadProgram", "NoMark", "BadText"] (fun y => y == "OtherRoutine")) (varM 0))) nilA))))))
    (retM (frzM (binM addD (varM 1) (lstM (consA (frzM (isE (tcE ["BadBlocks", "BadJump", "TooLarge", "NoBlock", "NoJump", "NoRun", "NoItem", "NotInner", "OtherRoutine", "BadCount", "Uneven", "BadNumber", "BadEntry", "NotPassed", "NotEnough", "NoCeiling", "NoFloor", "NotPossible", "NotSeen", "OtherCounts", "BadCover", "BadIns", "NotTwins", "BadProgram", "NoMark", "BadText"] (fun y => y == "TooLarge")) (varM 0))) (consA (frzM (isE (tcE ["BadBlocks", "BadJump", "TooLarge", "NoBlock", "NoJump", "NoRun", "NoItem", "NotInner", "OtherRoutine", "BadCount", "Uneven", "BadNumber", "BadEntry", "NotPassed", "NotEnough", "NoCeiling", "NoFloor", "NotPossible", "NotSeen", "OtherCounts", "BadCover", "BadIns", "NotTwins", "BadProgram", "NoMark", "BadText"] (fun y => y == "Uneven")) (varM 0))) nilA))))))))))))))))
@[irreducible] def m__law_kinds : List Slot → RF := m0__law_kinds
theorem mx__law_kinds : m__law_kinds = m0__law_kinds := by unfold m__law_kinds; rfl
theorem sc__law_kinds : FnScope ["_law_thing", "_law_found"] ["_law_thing"] (defScope s__law_kinds) := ⟨rfl, rfl, rfl, by decide +kernel, rfl, by decide +kernel, by decide +kernel⟩
theorem ok__law_kinds (c : Hd bk fn K mg) : ∃ fd, FnG P w K mg base (L2.CX P w) 1 (gA "_law_kinds" K) fd ["_law_thing"] (spM K mg 1 m__law_kinds) ∧ Binds K fd ["_law_thing"] [] ∧ fdV K (gA "_law_kinds" K) = some fd := by
  rw [mx__law_kinds]
  obtain ⟨fd, hfd, F⟩ := c.fnAt 18 (d := d__law_kinds)
  refine ⟨fd, fun_ok (k := 0) F sc__law_kinds rfl rfl fun cdv A outer s H E B hr => ?_, F.binds fun _ _ _ _ _ _ us hl => match us, hl with | [_], _ => rfl, hfd⟩
  have nd := sc__law_kinds.nd
  exact (ss_fz0 0 (ss_cons (s_fz 1 (s_set 1 nd (e_lst (a_cons (e_frz (e_isE (isE_ok c 90 91) (.own _) (e_var 0) (pe_glob (by rfl) (c.glo 1) (show RelV (V.ref (gA "BadBlocks" _)) (Value.ref (gA "BadBlocks" _)) from rfl)) (c.free 92))) (a_cons (e_frz (e_isE (isE_ok c 90 93) (.own _) (e_var 0) (pe_glob (by rfl) (c.glo 5) (show RelV (V.ref (gA "BadCount" _)) (Value.ref (gA "BadCount" _)) from rfl)) (c.free 92))) (a_cons (e_frz (e_isE (isE_ok c 90 94) (.own _) (e_var 0) (pe_glob (by rfl) (c.glo 7) (show RelV (V.ref (gA "BadCover" _)) (Value.ref (gA "BadCover" _)) from rfl)) (c.free 92))) a_nil))))))
      (ss_cons (s_fz 1 (s_set 1 nd (e_bin o_add m_add (e_var 1) (e_lst (a_cons (e_frz (e_isE (isE_ok c 90 95) (.own _) (e_var 0) (pe_glob (by rfl) (c.glo 11) (show RelV (V.ref (gA "BadEntry" _)) (Value.ref (gA "BadEntry" _)) from rfl)) (c.free 92))) (a_cons (e_frz (e_isE (isE_ok c 90 96) (.own _) (e_var 0) (pe_glob (by rfl) (c.glo 13) (show RelV (V.ref (gA "BadIns" _)) (Value.ref (gA "BadIns" _)) from rfl)) (c.free 92))) (a_cons (e_frz (e_isE (isE_ok c 90 97) (.own _) (e_var 0) (pe_glob (by rfl) (c.glo 17) (show RelV (V.ref (gA "BadJump" _)) (Value.ref (gA "BadJump" _)) from rfl)) (c.free 92))) a_nil)))))))
      (ss_cons (s_fz 1 (s_set 1 nd (e_bin o_add m_add (e_var 1) (e_lst (a_cons (e_frz (e_isE (isE_ok c 90 98) (.own _) (e_var 0) (pe_glob (by rfl) (c.glo 19) (show RelV (V.ref (gA "BadNumber" _)) (Value.ref (gA "BadNumber" _)) from rfl)) (c.free 92))) (a_cons (e_frz (e_isE (isE_ok c 90 99) (.own _) (e_var 0) (pe_glob (by rfl) (c.glo 23) (show RelV (V.ref (gA "BadProgram" _)) (Value.ref (gA "BadProgram" _)) from rfl)) (c.free 92))) a_nil))))))
      (ss_cons (s_fz 1 (s_set 1 nd (e_bin o_add m_add (e_var 1) (e_lst (a_cons (e_frz (e_isE (isE_ok c 90 100) (.own _) (e_var 0) (pe_glob (by rfl) (c.glo 27) (show RelV (V.ref (gA "BadText" _)) (Value.ref (gA "BadText" _)) from rfl)) (c.free 92))) (a_cons (e_frz (e_isE (isE_ok c 90 101) (.own _) (e_var 0) (pe_glob (by rfl) (c.glo 31) (show RelV (V.ref (gA "NoBlock" _)) (Value.ref (gA "NoBlock" _)) from rfl)) (c.free 92))) a_nil))))))
      (ss_cons (s_fz 1 (s_set 1 nd (e_bin o_add m_add (e_var 1) (e_lst (a_cons (e_frz (e_isE (isE_ok c 90 102) (.own _) (e_var 0) (pe_glob (by rfl) (c.glo 33) (show RelV (V.ref (gA "NoCeiling" _)) (Value.ref (gA "NoCeiling" _)) from rfl)) (c.free 92))) (a_cons (e_frz (e_isE (isE_ok c 90 103) (.own _) (e_var 0) (pe_glob (by rfl) (c.glo 35) (show RelV (V.ref (gA "NoFloor" _)) (Value.ref (gA "NoFloor" _)) from rfl)) (c.free 92))) (a_cons (e_frz (e_isE (isE_ok c 90 104) (.own _) (e_var 0) (pe_glob (by rfl) (c.glo 39) (show RelV (V.ref (gA "NoItem" _)) (Value.ref (gA "NoItem" _)) from rfl)) (c.free 92))) a_nil)))))))
      (ss_cons (s_fz 1 (s_set 1 nd (e_bin o_add m_add (e_var 1) (e_lst (a_cons (e_frz (e_isE (isE_ok c 90 105) (.own _) (e_var 0) (pe_glob (by rfl) (c.glo 43) (show RelV (V.ref (gA "NoJump" _)) (Value.ref (gA "NoJump" _)) from rfl)) (c.free 92))) (a_cons (e_frz (e_isE (isE_ok c 90 106) (.own _) (e_var 0) (pe_glob (by rfl) (c.glo 47) (show RelV (V.ref (gA "NoMark" _)) (Value.ref (gA "NoMark" _)) from rfl)) (c.free 92))) (a_cons (e_frz (e_isE (isE_ok c 90 107) (.own _) (e_var 0) (pe_glob (by rfl) (c.glo 51) (show RelV (V.ref (gA "NoRun" _)) (Value.ref (gA "NoRun" _)) from rfl)) (c.free 92))) a_nil)))))))
      (ss_cons (s_fz 1 (s_set 1 nd (e_bin o_add m_add (e_var 1) (e_lst (a_cons (e_frz (e_isE (isE_ok c 90 108) (.own _) (e_var 0) (pe_glob (by rfl) (c.glo 55) (show RelV (V.ref (gA "NotEnough" _)) (Value.ref (gA "NotEnough" _)) from rfl)) (c.free 92))) (a_cons (e_frz (e_isE (isE_ok c 90 109) (.own _) (e_var 0) (pe_glob (by rfl) (c.glo 59) (show RelV (V.ref (gA "NotInner" _)) (Value.ref (gA "NotInner" _)) from rfl)) (c.free 92))) (a_cons (e_frz (e_isE (isE_ok c 90 110) (.own _) (e_var 0) (pe_glob (by rfl) (c.glo 63) (show RelV (V.ref (gA "NotPassed" _)) (Value.ref (gA "NotPassed" _)) from rfl)) (c.free 92))) a_nil)))))))
      (ss_cons (s_fz 1 (s_set 1 nd (e_bin o_add m_add (e_var 1) (e_lst (a_cons (e_frz (e_isE (isE_ok c 90 111) (.own _) (e_var 0) (pe_glob (by rfl) (c.glo 68) (show RelV (V.ref (gA "NotPossible" _)) (Value.ref (gA "NotPossible" _)) from rfl)) (c.free 92))) (a_cons (e_frz (e_isE (isE_ok c 90 112) (.own _) (e_var 0) (pe_glob (by rfl) (c.glo 72) (show RelV (V.ref (gA "NotSeen" _)) (Value.ref (gA "NotSeen" _)) from rfl)) (c.free 92))) (a_cons (e_frz (e_isE (isE_ok c 90 113) (.own _) (e_var 0) (pe_glob (by rfl) (c.glo 74) (show RelV (V.ref (gA "NotTwins" _)) (Value.ref (gA "NotTwins" _)) from rfl)) (c.free 92))) a_nil)))))))
      (ss_cons (s_fz 1 (s_set 1 nd (e_bin o_add m_add (e_var 1) (e_lst (a_cons (e_frz (e_isE (isE_ok c 90 114) (.own _) (e_var 0) (pe_glob (by rfl) (c.glo 78) (show RelV (V.ref (gA "OtherCounts" _)) (Value.ref (gA "OtherCounts" _)) from rfl)) (c.free 92))) (a_cons (e_frz (e_isE (isE_ok c 90 115) (.own _) (e_var 0) (pe_glob (by rfl) (c.glo 80) (show RelV (V.ref (gA "OtherRoutine" _)) (Value.ref (gA "OtherRoutine" _)) from rfl)) (c.free 92))) a_nil))))))
      (ss_one (s_ret (e_frz (e_bin o_add m_add (e_var 1) (e_lst (a_cons (e_frz (e_isE (isE_ok c 90 116) (.own _) (e_var 0) (pe_glob (by rfl) (c.glo 84) (show RelV (V.ref (gA "TooLarge" _)) (Value.ref (gA "TooLarge" _)) from rfl)) (c.free 92))) (a_cons (e_frz (e_isE (isE_ok c 90 117) (.own _) (e_var 0) (pe_glob (by rfl) (c.glo 88) (show RelV (V.ref (gA "Uneven" _)) (Value.ref (gA "Uneven" _)) from rfl)) (c.free 92))) a_nil)))))))))))))))))
def m0__law_feed : List Slot → RF := funM 5
    (fz0 0 (fz0 1 (seqM (fzS 2 (asgM 2 (iteM (binM ltD (varM 1) (bltM lenD (consA (varM 0) nilA))) (binM ixD (varM 0) (varM 1)) (binM addD (binM mulD (conM (.int 61)) (varM 1)) (conM (.int 17))))))
    (seqM (fzS 3 (asgM 3 (bltM maxD (consA (conM (.int 0)) (consA (binM subD (bltM absD (consA (varM 2) nilA)) (binM powD (conM (.int 10)) (conM (.int 18)))) nilA)))))
    (seqM (asgM 4 (binM modD (bltM intD (consA (binM addD (binM addD (binM mulD (varM 2) (conM (.int 6364136223846793005))) (binM mulD (conM (.int 7919)) (varM 1))) (conM (.int 1442695040888963407))) nilA)) (conM (.int 2305843009213693951))))
    (retM (lstM (consA (frzM (varM 3)) (consA (frzM (varM 4)) nilA)))))))))
@[irreducible] def m__law_feed : List Slot → RF := m0__law_feed
theorem mx__law_feed : m__law_feed = m0__law_feed := by unfold m__law_feed; rfl
theorem sc__law_feed : FnScope ["_law_script", "_law_k", "_law_cell", "_law_digits", "_law_state"] ["_law_script", "_law_k"] (defScope s__law_feed) := ⟨rfl, rfl, rfl, by decide +kernel, rfl, by decide +kernel, by decide +kernel⟩
theorem ok__law_feed (c : Hd bk fn K mg) : ∃ fd, FnG P w K mg base (L2.CX P w) 1 (gA "_law_feed" K) fd ["_law_script", "_law_k"] (spM K mg 2 m__law_feed) ∧ Binds K fd ["_law_script", "_law_k"] [] ∧ fdV K (gA "_law_feed" K) = some fd := by
  rw [mx__law_feed]
  obtain ⟨fd, hfd, F⟩ := c.fnAt 19 (d := d__law_feed)
  refine ⟨fd, fun_ok (k := 0) F sc__law_feed rfl rfl fun cdv A outer s H E B hr => ?_, F.binds fun _ _ _ _ _ _ us hl => match us, hl with | [_, _], _ => rfl, hfd⟩
  have nd := sc__law_feed.nd
  exact (ss_fz0 0 (ss_fz0 1 (ss_cons (s_fz 2 (s_set 2 nd (e_ite (t_cmp op_lt m_lt (e_var 1) (e_blt m_len c_len (c.free 125) PySem.boot_len (a_cons (e_var 0) a_nil))) (e_ix (o_ix (room_v hr.r)) m_ix (e_var 0) (e_var 1)) (e_bin o_add m_add (e_bin o_mul m_mul e_int (e_var 1)) e_int))))
      (ss_cons (s_fz 3 (s_set 3 nd (e_blt m_max (call_max2 rfl) (c.free 127) PyProof.Rows.boot_max (a_cons e_int (a_cons (e_bin op_sub m_sub (e_blt m_abs call_abs (c.free 128) PyProof.Rows.boot_abs (a_cons (e_var 2) a_nil)) (e_bin op_pow m_pow e_int e_int)) a_nil)))))
      (ss_cons (s_set 4 nd (e_bin op_mod m_mod (e_bty m_int call_int1 (c.free 129) PyProof.Rows.boot_int (a_cons (e_bin o_add m_add (e_bin o_add m_add (e_bin o_mul m_mul (e_var 2) e_int) (e_bin o_mul m_mul e_int (e_var 1))) e_int) a_nil)) e_int))
      (ss_one (s_ret (e_lst (a_cons (e_frz (e_var 3)) (a_cons (e_frz (e_var 4)) a_nil))))))))))
def m0__law_numbers_right : List Slot → RF := funM 2
    (fz0 0 (seqM (fzS 1 (asgM 1 (lstM (consA (erF ["BadCount"] "at" (er1 "BadCount" "at" (consA (frzM (varM 0)) nilA))) (consA (erF ["BadEntry"] "at" (er1 "BadEntry" "at" (consA (frzM (varM 0)) nilA))) (consA (erF ["BadJump"] "at" (er1 "BadJump" "at" (consA (frzM (varM 0)) nilA))) (consA (erF ["BadText"] "line" (er1 "BadText" "line" (consA (frzM (varM 0)) nilA))) (consA (erF ["TooLarge"] "bound" (er1 "TooLarge" "bound" (consA (frzM (varM 0)) nilA))) nilA))))))))
    (seqM (fzS 1 (asgM 1 (binM addD (varM 1) (lstM (consA (erF ["BadCount"] "at" (er1 "BadCount" "at" (consA (frzM (varM 0)) nilA))) (consA (erF ["BadEntry"] "at" (er1 "BadEntry" "at" (consA (frzM (varM 0)) nilA))) (consA (erF ["BadJump"] "at" (er1 "BadJump" "at" (consA (frzM (varM 0)) nilA))) (consA (erF ["BadText"] "line" (er1 "BadText" "line" (consA (frzM (varM 0)) nilA))) nilA))))))))
    (seqM (fzS 1 (asgM 1 (binM addD (varM 1) (lstM (consA (erF ["TooLarge"] "bound" (er1 "TooLarge" "bound" (consA (frzM (varM 0)) nilA))) (consA (erF ["Uneven"] "block" (er1 "Uneven" "block" (consA (frzM (varM 0)) nilA))) (consA (erF ["Uneven"] "block" (er1 "Uneven" "block" (consA (frzM (varM 0)) nilA))) nilA)))))))
    (seqM (fzS 1 (asgM 1 (binM addD (varM 1) (lstM (consA (erF ["BadProgram"] "at" (er1 "BadProgram" "at" (consA (frzM (varM 0)) nilA))) (consA (erF ["BadProgram"] "at" (er1 "BadProgram" "at" (consA (frzM (varM 0)) nilA))) nilA))))))
    (seqM (fzS 1 (asgM 1 (binM addD (varM 1) (lstM (consA (erF ["NotPossible"] "least" (er2 false "NotPossible" "least" "greatest" (consA (frzM (varM 0)) (consA (conM (.int 5)) nilA)))) (consA (erF ["NotPossible"] "greatest" (er2 false "NotPossible" "least" "greatest" (consA (conM (.int 5)) (consA (frzM (varM 0)) nilA)))) nilA))))))
    (seqM (fzS 1 (asgM 1 (binM addD (varM 1) (lstM (consA (erF ["NotPossible"] "least" (er2 true "NotPossible" "least" "greatest" (consA (conM (.int 5)) (consA (frzM (varM 0)) nilA)))) (consA (erF ["NotPossible"] "greatest" (er2 true "NotPossible" "least" "greatest" (consA (frzM (varM 0)) (consA (conM (.int 5)) nilA)))) nilA))))))
    (retM (binM eqD (varM 1) (binM mulD (lstM (consA (frzM (varM 0)) nilA)) (conM (.int 18))))))))))))
@[irreducible] def m__law_numbers_right : List Slot → RF := m0__law_numbers_right
theorem mx__law_numbers_right : m__law_numbers_right = m0__law_numbers_right := by unfold m__law_numbers_right; rfl
theorem sc__law_numbers_right : FnScope ["_law_mine", "_law_found"] ["_law_mine"] (defScope s__law_numbers_right) := ⟨rfl, rfl, rfl, by decide +kernel, rfl, by decide +kernel, by decide +kernel⟩
theorem ok__law_numbers_right (c : Hd bk fn K mg) : ∃ fd, FnG P w K mg base (L2.CX P w) 3 (gA "_law_numbers_right" K) fd ["_law_mine"] (spM K mg 1 m__law_numbers_right) ∧ Binds K fd ["_law_mine"] [] ∧ fdV K (gA "_law_numbers_right" K) = some fd := by
  rw [mx__law_numbers_right]
  obtain ⟨fd, hfd, F⟩ := c.fnAt 20 (d := d__law_numbers_right)
  refine ⟨fd, fun_ok (k := 2) F sc__law_numbers_right rfl rfl fun cdv A outer s H E B hr => ?_, F.binds fun _ _ _ _ _ _ us hl => match us, hl with | [_], _ => rfl, hfd⟩
  have nd := sc__law_numbers_right.nd
  exact (ss_fz0 0 (ss_cons (s_fz 1 (s_set 1 nd (e_lst (a_cons (e_erF (erF_ok c 90 3 (.tail _ (.tail _ (.tail _ (.tail _ (.tail _ (.tail _ (.tail _ (.tail _ (.tail _ (.head _))))))))))) (e_er1 (π := id) (pe_er (c.oex 2) (c.init 4).1 (c.init 4).2 (xi_BadCount c).choose_spec.1 passL (hr.r.mono (by decide)) (xi_BadCount c).choose_spec.2.1 rfl (by decide) (c.glo 5) (a_cons (e_frz (e_var 0)) a_nil)) (fun _ => rfl) (c.glo 5))) (a_cons (e_erF (erF_ok c 90 9 (.tail _ (.tail _ (.tail _ (.tail _ (.tail _ (.tail _ (.tail _ (.tail _ (.tail _ (.tail _ (.tail _ (.tail _ (.head _)))))))))))))) (e_er1 (π := id) (pe_er (c.oex 8) (c.init 10).1 (c.init 10).2 (xi_BadEntry c).choose_spec.1 passL (hr.r.mono (by decide)) (xi_BadEntry c).choose_spec.2.1 rfl (by decide) (c.glo 11) (a_cons (e_frz (e_var 0)) a_nil)) (fun _ => rfl) (c.glo 11))) (a_cons (e_erF (erF_ok c 90 15 (.tail _ (.head _))) (e_er1 (π := id) (pe_er (c.oex 14) (c.init 16).1 (c.init 16).2 (xi_BadJump c).choose_spec.1 passL (hr.r.mono (by decide)) (xi_BadJump c).choose_spec.2.1 rfl (by decide) (c.glo 17) (a_cons (e_frz (e_var 0)) a_nil)) (fun _ => rfl) (c.glo 17))) (a_cons (e_erF (erF_ok c 90 25 (.tail _ (.tail _ (.tail _ (.tail _ (.tail _ (.tail _ (.tail _ (.tail _ (.tail _ (.tail _ (.tail _ (.tail _ (.tail _ (.tail _ (.tail _ (.tail _ (.tail _ (.tail _ (.tail _ (.tail _ (.tail _ (.tail _ (.tail _ (.tail _ (.tail _ (.head _))))))))))))))))))))))))))) (e_er1 (π := id) (pe_er (c.oex 24) (c.init 26).1 (c.init 26).2 (xi_BadText c).choose_spec.1 passL (hr.r.mono (by decide)) (xi_BadText c).choose_spec.2.1 rfl (by decide) (c.glo 27) (a_cons (e_frz (e_var 0)) a_nil)) (fun _ => rfl) (c.glo 27))) (a_cons (e_erF (erF_ok c 90 82 (.tail _ (.tail _ (.head _)))) (e_er1 (π := id) (pe_er (c.oex 81) (c.init 83).1 (c.init 83).2 (xi_TooLarge c).choose_spec.1 passL (hr.r.mono (by decide)) (xi_TooLarge c).choose_spec.2.1 rfl (by decide) (c.glo 84) (a_cons (e_frz (e_var 0)) a_nil)) (fun _ => rfl) (c.glo 84))) a_nil))))))))
      (ss_cons (s_fz 1 (s_set 1 nd (e_bin o_add m_add (e_var 1) (e_lst (a_cons (e_erF (erF_ok c 90 3 (.tail _ (.tail _ (.tail _ (.tail _ (.tail _ (.tail _ (.tail _ (.tail _ (.tail _ (.head _))))))))))) (e_er1 (π := id) (pe_erK (c.oex 2) (c.init 4).1 (c.init 4).2 (xi_BadCount c).choose_spec.1 passL (hr.r.mono (by decide)) (xi_BadCount c).choose_spec.2.2 (fun _ _ => rfl) (c.glo 5) (k_consA (e_frz (e_var 0)) k_nilA)) (fun _ => rfl) (c.glo 5))) (a_cons (e_erF (erF_ok c 90 9 (.tail _ (.tail _ (.tail _ (.tail _ (.tail _ (.tail _ (.tail _ (.tail _ (.tail _ (.tail _ (.tail _ (.tail _ (.head _)))))))))))))) (e_er1 (π := id) (pe_erK (c.oex 8) (c.init 10).1 (c.init 10).2 (xi_BadEntry c).choose_spec.1 passL (hr.r.mono (by decide)) (xi_BadEntry c).choose_spec.2.2 (fun _ _ => rfl) (c.glo 11) (k_consA (e_frz (e_var 0)) k_nilA)) (fun _ => rfl) (c.glo 11))) (a_cons (e_erF (erF_ok c 90 15 (.tail _ (.head _))) (e_er1 (π := id) (pe_erK (c.oex 14) (c.init 16).1 (c.init 16).2 (xi_BadJump c).choose_spec.1 passL (hr.r.mono (by decide)) (xi_BadJump c).choose_spec.2.2 (fun _ _ => rfl) (c.glo 17) (k_consA (e_frz (e_var 0)) k_nilA)) (fun _ => rfl) (c.glo 17))) (a_cons (e_erF (erF_ok c 90 25 (.tail _ (.tail _ (.tail _ (.tail _ (.tail _ (.tail _ (.tail _ (.tail _ (.tail _ (.tail _ (.tail _ (.tail _ (.tail _ (.tail _ (.tail _ (.tail _ (.tail _ (.tail _ (.tail _ (.tail _ (.tail _ (.tail _ (.tail _ (.tail _ (.tail _ (.head _))))))))))))))))))))))))))) (e_er1 (π := id) (pe_erK (c.oex 24) (c.init 26).1 (c.init 26).2 (xi_BadText c).choose_spec.1 passL (hr.r.mono (by decide)) (xi_BadText c).choose_spec.2.2 (fun _ _ => rfl) (c.glo 27) (k_consA (e_frz (e_var 0)) k_nilA)) (fun _ => rfl) (c.glo 27))) a_nil))))))))
      (ss_cons (s_fz 1 (s_set 1 nd (e_bin o_add m_add (e_var 1) (e_lst (a_cons (e_erF (erF_ok c 90 82 (.tail _ (.tail _ (.head _)))) (e_er1 (π := id) (pe_erK (c.oex 81) (c.init 83).1 (c.init 83).2 (xi_TooLarge c).choose_spec.1 passL (hr.r.mono (by decide)) (xi_TooLarge c).choose_spec.2.2 (fun _ _ => rfl) (c.glo 84) (k_consA (e_frz (e_var 0)) k_nilA)) (fun _ => rfl) (c.glo 84))) (a_cons (e_erF (erF_ok c 90 86 (.tail _ (.tail _ (.tail _ (.tail _ (.tail _ (.tail _ (.tail _ (.tail _ (.tail _ (.tail _ (.head _)))))))))))) (e_er1 (π := id) (pe_er (c.oex 85) (c.init 87).1 (c.init 87).2 (xi_Uneven c).choose_spec.1 passL (hr.r.mono (by decide)) (xi_Uneven c).choose_spec.2.1 rfl (by decide) (c.glo 88) (a_cons (e_frz (e_var 0)) a_nil)) (fun _ => rfl) (c.glo 88))) (a_cons (e_erF (erF_ok c 90 86 (.tail _ (.tail _ (.tail _ (.tail _ (.tail _ (.tail _ (.tail _ (.tail _ (.tail _ (.tail _ (.head _)))))))))))) (e_er1 (π := id) (pe_erK (c.oex 85) (c.init 87).1 (c.init 87).2 (xi_Uneven c).choose_spec.1 passL (hr.r.mono (by decide)) (xi_Uneven c).choose_spec.2.2 (fun _ _ => rfl) (c.glo 88) (k_consA (e_frz (e_var 0)) k_nilA)) (fun _ => rfl) (c.glo 88))) a_nil)))))))
      (ss_cons (s_fz 1 (s_set 1 nd (e_bin o_add m_add (e_var 1) (e_lst (a_cons (e_erF (erF_ok c 90 21 (.tail _ (.tail _ (.tail _ (.tail _ (.tail _ (.tail _ (.tail _ (.tail _ (.tail _ (.tail _ (.tail _ (.tail _ (.tail _ (.tail _ (.tail _ (.tail _ (.tail _ (.tail _ (.tail _ (.tail _ (.tail _ (.tail _ (.tail _ (.head _))))))))))))))))))))))))) (e_er1 (π := id) (pe_er (c.oex 20) (c.init 22).1 (c.init 22).2 (xi_BadProgram c).choose_spec.1 passL (hr.r.mono (by decide)) (xi_BadProgram c).choose_spec.2.1 rfl (by decide) (c.glo 23) (a_cons (e_frz (e_var 0)) a_nil)) (fun _ => rfl) (c.glo 23))) (a_cons (e_erF (erF_ok c 90 21 (.tail _ (.tail _ (.tail _ (.tail _ (.tail _ (.tail _ (.tail _ (.tail _ (.tail _ (.tail _ (.tail _ (.tail _ (.tail _ (.tail _ (.tail _ (.tail _ (.tail _ (.tail _ (.tail _ (.tail _ (.tail _ (.tail _ (.tail _ (.head _))))))))))))))))))))))))) (e_er1 (π := id) (pe_erK (c.oex 20) (c.init 22).1 (c.init 22).2 (xi_BadProgram c).choose_spec.1 passL (hr.r.mono (by decide)) (xi_BadProgram c).choose_spec.2.2 (fun _ _ => rfl) (c.glo 23) (k_consA (e_frz (e_var 0)) k_nilA)) (fun _ => rfl) (c.glo 23))) a_nil))))))
      (ss_cons (s_fz 1 (s_set 1 nd (e_bin o_add m_add (e_var 1) (e_lst (a_cons (e_erF (erF_ok c 90 65 (.tail _ (.tail _ (.tail _ (.tail _ (.tail _ (.tail _ (.tail _ (.tail _ (.tail _ (.tail _ (.tail _ (.tail _ (.tail _ (.tail _ (.tail _ (.tail _ (.tail _ (.head _))))))))))))))))))) (e_er2 (sw := false) (π := id) (pe_er (c.oex 64) (c.init 67).1 (c.init 67).2 (xi_NotPossible c).choose_spec.1 passL (hr.r.mono (by decide)) (xi_NotPossible c).choose_spec.2.1 rfl (by decide) (c.glo 68) (a_cons (e_frz (e_var 0)) (a_cons e_int a_nil))) (fun _ _ => rfl) (c.glo 68))) (a_cons (e_erF (erF_ok c 90 66 (.tail _ (.tail _ (.tail _ (.tail _ (.tail _ (.tail _ (.tail _ (.tail _ (.tail _ (.tail _ (.tail _ (.tail _ (.tail _ (.tail _ (.tail _ (.tail _ (.tail _ (.head _))))))))))))))))))) (e_er2 (sw := false) (π := id) (pe_er (c.oex 64) (c.init 67).1 (c.init 67).2 (xi_NotPossible c).choose_spec.1 passL (hr.r.mono (by decide)) (xi_NotPossible c).choose_spec.2.1 rfl (by decide) (c.glo 68) (a_cons e_int (a_cons (e_frz (e_var 0)) a_nil))) (fun _ _ => rfl) (c.glo 68))) a_nil))))))
      (ss_cons (s_fz 1 (s_set 1 nd (e_bin o_add m_add (e_var 1) (e_lst (a_cons (e_erF (erF_ok c 90 65 (.tail _ (.tail _ (.tail _ (.tail _ (.tail _ (.tail _ (.tail _ (.tail _ (.tail _ (.tail _ (.tail _ (.tail _ (.tail _ (.tail _ (.tail _ (.tail _ (.tail _ (.head _))))))))))))))))))) (e_er2 (sw := true) (π := List.reverse) (pe_erK (c.oex 64) (c.init 67).1 (c.init 67).2 (xi_NotPossible c).choose_spec.1 passL (hr.r.mono (by decide)) (xi_NotPossible c).choose_spec.2.2 (fun _ _ => rfl) (c.glo 68) (k_consA e_int (k_consA (e_frz (e_var 0)) k_nilA))) (fun _ _ => rfl) (c.glo 68))) (a_cons (e_erF (erF_ok c 90 66 (.tail _ (.tail _ (.tail _ (.tail _ (.tail _ (.tail _ (.tail _ (.tail _ (.tail _ (.tail _ (.tail _ (.tail _ (.tail _ (.tail _ (.tail _ (.tail _ (.tail _ (.head _))))))))))))))))))) (e_er2 (sw := true) (π := List.reverse) (pe_erK (c.oex 64) (c.init 67).1 (c.init 67).2 (xi_NotPossible c).choose_spec.1 passL (hr.r.mono (by decide)) (xi_NotPossible c).choose_spec.2.2 (fun _ _ => rfl) (c.glo 68) (k_consA (e_frz (e_var 0)) (k_consA e_int k_nilA))) (fun _ _ => rfl) (c.glo 68))) a_nil))))))
      (ss_one (s_ret (e_cmp (op_eqD hr.r.units) m_eq (e_var 1) (e_bin o_mul m_mul (e_lst (a_cons (e_frz (e_var 0)) a_nil)) e_int)))))))))))
def m0__law_take : List Slot → RF := funM 3
    (fz0 1 (seqM (ifS (binM gtD (binM ixD (varM 0) (conM (.int 0))) (conM (.int 0))) (seqM (asgM 2 (binM modD (bltM intD (consA (binM ixD (varM 0) (conM (.int 0))) nilA)) (varM 1)))
    (seqM (setI (varM 0) (conM (.int 0)) (binM fdivD (binM ixD (varM 0) (conM (.int 0))) (varM 1)))
    (retM (frzM (varM 2)))))
    nxM)
    (seqM (setI (varM 0) (conM (.int 1)) (binM modD (bltM intD (consA (binM addD (binM mulD (binM ixD (varM 0) (conM (.int 1))) (conM (.int 6364136223846793005))) (conM (.int 1442695040888963407))) nilA)) (conM (.int 2305843009213693951))))
    (retM (binM modD (bltM intD (consA (binM fdivD (binM ixD (varM 0) (conM (.int 1))) (conM (.int 65536))) nilA)) (varM 1))))))
@[irreducible] def m__law_take : List Slot → RF := m0__law_take
theorem mx__law_take : m__law_take = m0__law_take := by unfold m__law_take; rfl
theorem sc__law_take : FnScope ["_law_feed_here", "_law_many", "_law_digit"] ["_law_feed_here", "_law_many"] (defScope s__law_take) := ⟨rfl, rfl, rfl, by decide +kernel, rfl, by decide +kernel, by decide +kernel⟩
theorem ok__law_take (c : Hd bk fn K mg) : ∃ fd, FnG P w K mg base (L2.CX P w) 1 (gA "_law_take" K) fd ["_law_feed_here", "_law_many"] (spM K mg 2 m__law_take) ∧ Binds K fd ["_law_feed_here", "_law_many"] [] ∧ fdV K (gA "_law_take" K) = some fd := by
  rw [mx__law_take]
  obtain ⟨fd, hfd, F⟩ := c.fnAt 21 (d := d__law_take)
  refine ⟨fd, fun_ok (k := 0) F sc__law_take rfl rfl fun cdv A outer s H E B hr => ?_, F.binds fun _ _ _ _ _ _ us hl => match us, hl with | [_, _], _ => rfl, hfd⟩
  have nd := sc__law_take.nd
  exact (ss_fz0 1 (ss_cons (s_if (t_cmp op_gt m_gt (e_ix (o_ix (room_v hr.r)) m_ix (e_var 0) e_int) e_int) (ss_cons (s_set 2 nd (e_bin op_mod m_mod (e_bty m_int call_int1 (c.free 129) PyProof.Rows.boot_int (a_cons (e_ix (o_ix (room_v hr.r)) m_ix (e_var 0) e_int) a_nil)) (e_var 1)))
      (ss_cons (s_setI (room_v hr.r) (e_var 0) e_int (e_bin op_fdivW m_fdiv (e_ix (o_ix (room_v hr.r)) m_ix (e_var 0) e_int) (e_var 1)))
      (ss_one (s_ret (e_frz (e_var 2))))))
      ss_nil)
      (ss_cons (s_setI (room_v hr.r) (e_var 0) e_int (e_bin op_mod m_mod (e_bty m_int call_int1 (c.free 129) PyProof.Rows.boot_int (a_cons (e_bin o_add m_add (e_bin o_mul m_mul (e_ix (o_ix (room_v hr.r)) m_ix (e_var 0) e_int) e_int) e_int) a_nil)) e_int))
      (ss_one (s_ret (e_bin op_mod m_mod (e_bty m_int call_int1 (c.free 129) PyProof.Rows.boot_int (a_cons (e_bin op_fdivW m_fdiv (e_ix (o_ix (room_v hr.r)) m_ix (e_var 0) e_int) e_int) a_nil)) (e_var 1)))))))
def m0__law_others_right : List Slot → RF := funM 2
    (fz0 0 (seqM (fzS 1 (asgM 1 (lstM (consA (erF ["NoBlock"] "block" (er1 "NoBlock" "block" (consA (frzM (varM 0)) nilA))) (consA (erF ["NoItem"] "item" (er1 "NoItem" "item" (consA (frzM (varM 0)) nilA))) (consA (erF ["NoJump"] "jump" (er1 "NoJump" "jump" (consA (frzM (varM 0)) nilA))) (consA (erF ["NoMark"] "number" (er1 "NoMark" "number" (consA (frzM (varM 0)) nilA))) (consA (erF ["NoRun"] "run" (er1 "NoRun" "run" (consA (frzM (varM 0)) nilA))) nilA))))))))
    (seqM (fzS 1 (asgM 1 (binM addD (varM 1) (lstM (consA (erF ["NotInner"] "block" (er1 "NotInner" "block" (consA (frzM (varM 0)) nilA))) (consA (erF ["NotPassed"] "block" (er1 "NotPassed" "block" (consA (frzM (varM 0)) nilA))) nilA))))))
    (seqM (fzS 1 (asgM 1 (binM addD (varM 1) (lstM (consA (erF ["NoBlock"] "block" (er1 "NoBlock" "block" (consA (frzM (varM 0)) nilA))) (consA (erF ["NoItem"] "item" (er1 "NoItem" "item" (consA (frzM (varM 0)) nilA))) nilA))))))
    (seqM (fzS 1 (asgM 1 (binM addD (varM 1) (lstM (consA (erF ["NoJump"] "jump" (er1 "NoJump" "jump" (consA (frzM (varM 0)) nilA))) (consA (erF ["NoMark"] "number" (er1 "NoMark" "number" (consA (frzM (varM 0)) nilA))) (consA (erF ["NoRun"] "run" (er1 "NoRun" "run" (consA (frzM (varM 0)) nilA))) nilA)))))))
    (seqM (fzS 1 (asgM 1 (binM addD (varM 1) (lstM (consA (erF ["NotInner"] "block" (er1 "NotInner" "block" (consA (frzM (varM 0)) nilA))) (consA (erF ["NotPassed"] "block" (er1 "NotPassed" "block" (consA (frzM (varM 0)) nilA))) nilA))))))
    (retM (binM eqD (bltM reprD (consA (varM 1) nilA)) (bltM reprD (consA (binM mulD (lstM (consA (frzM (varM 0)) nilA)) (conM (.int 14))) nilA))))))))))
@[irreducible] def m__law_others_right : List Slot → RF := m0__law_others_right
theorem mx__law_others_right : m__law_others_right = m0__law_others_right := by unfold m__law_others_right; rfl
theorem sc__law_others_right : FnScope ["_law_odd", "_law_found"] ["_law_odd"] (defScope s__law_others_right) := ⟨rfl, rfl, rfl, by decide +kernel, rfl, by decide +kernel, by decide +kernel⟩
theorem ok__law_others_right (c : Hd bk fn K mg) : ∃ fd, FnG P w K mg base (L2.CX P w) 3 (gA "_law_others_right" K) fd ["_law_odd"] (spM K mg 1 m__law_others_right) ∧ Binds K fd ["_law_odd"] [] ∧ fdV K (gA "_law_others_right" K) = some fd := by
  rw [mx__law_others_right]
  obtain ⟨fd, hfd, F⟩ := c.fnAt 22 (d := d__law_others_right)
  refine ⟨fd, fun_ok (k := 2) F sc__law_others_right rfl rfl fun cdv A outer s H E B hr => ?_, F.binds fun _ _ _ _ _ _ us hl => match us, hl with | [_], _ => rfl, hfd⟩
  have nd := sc__law_others_right.nd
  exact (ss_fz0 0 (ss_cons (s_fz 1 (s_set 1 nd (e_lst (a_cons (e_erF (erF_ok c 90 29 (.tail _ (.tail _ (.tail _ (.head _))))) (e_er1 (π := id) (pe_er (c.oex 28) (c.init 30).1 (c.init 30).2 (xi_NoBlock c).choose_spec.1 passL (hr.r.mono (by decide)) (xi_NoBlock c).choose_spec.2.1 rfl (by decide) (c.glo 31) (a_cons (e_frz (e_var 0)) a_nil)) (fun _ => rfl) (c.glo 31))) (a_cons (e_erF (erF_ok c 90 37 (.tail _ (.tail _ (.tail _ (.tail _ (.tail _ (.tail _ (.head _)))))))) (e_er1 (π := id) (pe_er (c.oex 36) (c.init 38).1 (c.init 38).2 (xi_NoItem c).choose_spec.1 passL (hr.r.mono (by decide)) (xi_NoItem c).choose_spec.2.1 rfl (by decide) (c.glo 39) (a_cons (e_frz (e_var 0)) a_nil)) (fun _ => rfl) (c.glo 39))) (a_cons (e_erF (erF_ok c 90 41 (.tail _ (.tail _ (.tail _ (.tail _ (.head _)))))) (e_er1 (π := id) (pe_er (c.oex 40) (c.init 42).1 (c.init 42).2 (xi_NoJump c).choose_spec.1 passL (hr.r.mono (by decide)) (xi_NoJump c).choose_spec.2.1 rfl (by decide) (c.glo 43) (a_cons (e_frz (e_var 0)) a_nil)) (fun _ => rfl) (c.glo 43))) (a_cons (e_erF (erF_ok c 90 45 (.tail _ (.tail _ (.tail _ (.tail _ (.tail _ (.tail _ (.tail _ (.tail _ (.tail _ (.tail _ (.tail _ (.tail _ (.tail _ (.tail _ (.tail _ (.tail _ (.tail _ (.tail _ (.tail _ (.tail _ (.tail _ (.tail _ (.tail _ (.tail _ (.head _)))))))))))))))))))))))))) (e_er1 (π := id) (pe_er (c.oex 44) (c.init 46).1 (c.init 46).2 (xi_NoMark c).choose_spec.1 passL (hr.r.mono (by decide)) (xi_NoMark c).choose_spec.2.1 rfl (by decide) (c.glo 47) (a_cons (e_frz (e_var 0)) a_nil)) (fun _ => rfl) (c.glo 47))) (a_cons (e_erF (erF_ok c 90 49 (.tail _ (.tail _ (.tail _ (.tail _ (.tail _ (.head _))))))) (e_er1 (π := id) (pe_er (c.oex 48) (c.init 50).1 (c.init 50).2 (xi_NoRun c).choose_spec.1 passL (hr.r.mono (by decide)) (xi_NoRun c).choose_spec.2.1 rfl (by decide) (c.glo 51) (a_cons (e_frz (e_var 0)) a_nil)) (fun _ => rfl) (c.glo 51))) a_nil))))))))
      (ss_cons (s_fz 1 (s_set 1 nd (e_bin o_add m_add (e_var 1) (e_lst (a_cons (e_erF (erF_ok c 90 57 (.tail _ (.tail _ (.tail _ (.tail _ (.tail _ (.tail _ (.tail _ (.head _))))))))) (e_er1 (π := id) (pe_er (c.oex 56) (c.init 58).1 (c.init 58).2 (xi_NotInner c).choose_spec.1 passL (hr.r.mono (by decide)) (xi_NotInner c).choose_spec.2.1 rfl (by decide) (c.glo 59) (a_cons (e_frz (e_var 0)) a_nil)) (fun _ => rfl) (c.glo 59))) (a_cons (e_erF (erF_ok c 90 61 (.tail _ (.tail _ (.tail _ (.tail _ (.tail _ (.tail _ (.tail _ (.tail _ (.tail _ (.tail _ (.tail _ (.tail _ (.tail _ (.head _))))))))))))))) (e_er1 (π := id) (pe_er (c.oex 60) (c.init 62).1 (c.init 62).2 (xi_NotPassed c).choose_spec.1 passL (hr.r.mono (by decide)) (xi_NotPassed c).choose_spec.2.1 rfl (by decide) (c.glo 63) (a_cons (e_frz (e_var 0)) a_nil)) (fun _ => rfl) (c.glo 63))) a_nil))))))
      (ss_cons (s_fz 1 (s_set 1 nd (e_bin o_add m_add (e_var 1) (e_lst (a_cons (e_erF (erF_ok c 90 29 (.tail _ (.tail _ (.tail _ (.head _))))) (e_er1 (π := id) (pe_erK (c.oex 28) (c.init 30).1 (c.init 30).2 (xi_NoBlock c).choose_spec.1 passL (hr.r.mono (by decide)) (xi_NoBlock c).choose_spec.2.2 (fun _ _ => rfl) (c.glo 31) (k_consA (e_frz (e_var 0)) k_nilA)) (fun _ => rfl) (c.glo 31))) (a_cons (e_erF (erF_ok c 90 37 (.tail _ (.tail _ (.tail _ (.tail _ (.tail _ (.tail _ (.head _)))))))) (e_er1 (π := id) (pe_erK (c.oex 36) (c.init 38).1 (c.init 38).2 (xi_NoItem c).choose_spec.1 passL (hr.r.mono (by decide)) (xi_NoItem c).choose_spec.2.2 (fun _ _ => rfl) (c.glo 39) (k_consA (e_frz (e_var 0)) k_nilA)) (fun _ => rfl) (c.glo 39))) a_nil))))))
      (ss_cons (s_fz 1 (s_set 1 nd (e_bin o_add m_add (e_var 1) (e_lst (a_cons (e_erF (erF_ok c 90 41 (.tail _ (.tail _ (.tail _ (.tail _ (.head _)))))) (e_er1 (π := id) (pe_erK (c.oex 40) (c.init 42).1 (c.init 42).2 (xi_NoJump c).choose_spec.1 passL (hr.r.mono (by decide)) (xi_NoJump c).choose_spec.2.2 (fun _ _ => rfl) (c.glo 43) (k_consA (e_frz (e_var 0)) k_nilA)) (fun _ => rfl) (c.glo 43))) (a_cons (e_erF (erF_ok c 90 45 (.tail _ (.tail _ (.tail _ (.tail _ (.tail _ (.tail _ (.tail _ (.tail _ (.tail _ (.tail _ (.tail _ (.tail _ (.tail _ (.tail _ (.tail _ (.tail _ (.tail _ (.tail _ (.tail _ (.tail _ (.tail _ (.tail _ (.tail _ (.tail _ (.head _)))))))))))))))))))))))))) (e_er1 (π := id) (pe_erK (c.oex 44) (c.init 46).1 (c.init 46).2 (xi_NoMark c).choose_spec.1 passL (hr.r.mono (by decide)) (xi_NoMark c).choose_spec.2.2 (fun _ _ => rfl) (c.glo 47) (k_consA (e_frz (e_var 0)) k_nilA)) (fun _ => rfl) (c.glo 47))) (a_cons (e_erF (erF_ok c 90 49 (.tail _ (.tail _ (.tail _ (.tail _ (.tail _ (.head _))))))) (e_er1 (π := id) (pe_erK (c.oex 48) (c.init 50).1 (c.init 50).2 (xi_NoRun c).choose_spec.1 passL (hr.r.mono (by decide)) (xi_NoRun c).choose_spec.2.2 (fun _ _ => rfl) (c.glo 51) (k_consA (e_frz (e_var 0)) k_nilA)) (fun _ => rfl) (c.glo 51))) a_nil)))))))
      (ss_cons (s_fz 1 (s_set 1 nd (e_bin o_add m_add (e_var 1) (e_lst (a_cons (e_erF (erF_ok c 90 57 (.tail _ (.tail _ (.tail _ (.tail _ (.tail _ (.tail _ (.tail _ (.head _))))))))) (e_er1 (π := id) (pe_erK (c.oex 56) (c.init 58).1 (c.init 58).2 (xi_NotInner c).choose_spec.1 passL (hr.r.mono (by decide)) (xi_NotInner c).choose_spec.2.2 (fun _ _ => rfl) (c.glo 59) (k_consA (e_frz (e_var 0)) k_nilA)) (fun _ => rfl) (c.glo 59))) (a_cons (e_erF (erF_ok c 90 61 (.tail _ (.tail _ (.tail _ (.tail _ (.tail _ (.tail _ (.tail _ (.tail _ (.tail _ (.tail _ (.tail _ (.tail _ (.tail _ (.head _))))))))))))))) (e_er1 (π := id) (pe_erK (c.oex 60) (c.init 62).1 (c.init 62).2 (xi_NotPassed c).choose_spec.1 passL (hr.r.mono (by decide)) (xi_NotPassed c).choose_spec.2.2 (fun _ _ => rfl) (c.glo 63) (k_consA (e_frz (e_var 0)) k_nilA)) (fun _ => rfl) (c.glo 63))) a_nil))))))
      (ss_one (s_ret (e_cmp (op_eqD hr.r.units) m_eq (e_blt m_repr (c_repr hr.g (room_u hr.r)) (c.free 136) PyProof.Rows.boot_repr (a_cons (e_var 1) a_nil)) (e_blt m_repr (c_repr hr.g (room_u hr.r)) (c.free 136) PyProof.Rows.boot_repr (a_cons (e_bin o_mul m_mul (e_lst (a_cons (e_frz (e_var 0)) a_nil)) e_int) a_nil)))))))))))
def m0__law_pick : List Slot → RF := funM 2
    (fz0 1 (retM (frzM (binM ixD (varM 1) (callN 2 m__law_take (consA (varM 0) (consA (bltM lenD (consA (varM 1) nilA)) nilA)))))))
@[irreducible] def m__law_pick : List Slot → RF := m0__law_pick
theorem mx__law_pick : m__law_pick = m0__law_pick := by unfold m__law_pick; rfl
theorem sc__law_pick : FnScope ["_law_feed_here", "_law_some"] ["_law_feed_here", "_law_some"] (defScope s__law_pick) := ⟨rfl, rfl, rfl, by decide +kernel, rfl, by decide +kernel, by decide +kernel⟩
theorem ok__law_pick (c : Hd bk fn K mg) : ∃ fd, FnG P w K mg base (L2.CX P w) 2 (gA "_law_pick" K) fd ["_law_feed_here", "_law_some"] (spM K mg 2 m__law_pick) ∧ Binds K fd ["_law_feed_here", "_law_some"] [] ∧ fdV K (gA "_law_pick" K) = some fd := by
  rw [mx__law_pick]
  obtain ⟨fd, hfd, F⟩ := c.fnAt 23 (d := d__law_pick)
  refine ⟨fd, fun_ok (k := 1) F sc__law_pick rfl rfl fun cdv A outer s H E B hr => ?_, F.binds fun _ _ _ _ _ _ us hl => match us, hl with | [_, _], _ => rfl, hfd⟩
  have nd := sc__law_pick.nd
  exact (ss_fz0 1 (ss_one (s_ret (e_frz (e_ix (o_ix (room_v hr.r)) m_ix (e_var 1) (e_call (ok__law_take c).choose_spec.1 (hr.mono (by decide)) (c.glo 133) (c.keep 132) (ok__law_take c).choose_spec.2.1 (takes_of rfl rfl rfl rfl) (a_cons (e_var 0) (a_cons (e_blt m_len c_len (c.free 125) PySem.boot_len (a_cons (e_var 1) a_nil)) a_nil))))))))
def m0__law_runs_right : List Slot → RF := funM 3
    (fz0 0 (fz0 1 (seqM (ifS (orM (binM neD (erF ["NotEnough"] "run" (er1 "NotEnough" "run" (consA (frzM (varM 0)) nilA))) (varM 0)) (binM neD (erF ["NotEnough"] "run" (er1 "NotEnough" "run" (consA (frzM (varM 0)) nilA))) (varM 0))) (retM (conM (.bl false)))
    nxM)
    (seqM (fzS 2 (asgM 2 (lstM (consA (erF ["NotSeen"] "jump" (er1 "NotSeen" "jump" (consA (frzM (varM 1)) nilA))) (consA (erF ["OtherCounts"] "jump" (er1 "OtherCounts" "jump" (consA (frzM (varM 1)) nilA))) nilA)))))
    (seqM (fzS 2 (asgM 2 (binM addD (varM 2) (lstM (consA (erF ["NotSeen"] "jump" (er1 "NotSeen" "jump" (consA (frzM (varM 1)) nilA))) (consA (erF ["OtherCounts"] "jump" (er1 "OtherCounts" "jump" (consA (frzM (varM 1)) nilA))) nilA))))))
    (retM (binM eqD (varM 2) (binM mulD (lstM (consA (frzM (varM 1)) nilA)) (conM (.int 4))))))))))
@[irreducible] def m__law_runs_right : List Slot → RF := m0__law_runs_right
theorem mx__law_runs_right : m__law_runs_right = m0__law_runs_right := by unfold m__law_runs_right; rfl
theorem sc__law_runs_right : FnScope ["_law_run_told", "_law_jump_told", "_law_found"] ["_law_run_told", "_law_jump_told"] (defScope s__law_runs_right) := ⟨rfl, rfl, rfl, by decide +kernel, rfl, by decide +kernel, by decide +kernel⟩
theorem ok__law_runs_right (c : Hd bk fn K mg) : ∃ fd, FnG P w K mg base (L2.CX P w) 3 (gA "_law_runs_right" K) fd ["_law_run_told", "_law_jump_told"] (spM K mg 2 m__law_runs_right) ∧ Binds K fd ["_law_run_told", "_law_jump_told"] [] ∧ fdV K (gA "_law_runs_right" K) = some fd := by
  rw [mx__law_runs_right]
  obtain ⟨fd, hfd, F⟩ := c.fnAt 24 (d := d__law_runs_right)
  refine ⟨fd, fun_ok (k := 2) F sc__law_runs_right rfl rfl fun cdv A outer s H E B hr => ?_, F.binds fun _ _ _ _ _ _ us hl => match us, hl with | [_, _], _ => rfl, hfd⟩
  have nd := sc__law_runs_right.nd
  exact (ss_fz0 0 (ss_fz0 1 (ss_cons (s_if (pt_w (w_or (t_cmp (op_neD hr.r.units) m_ne (e_erF (erF_ok c 90 53 (.tail _ (.tail _ (.tail _ (.tail _ (.tail _ (.tail _ (.tail _ (.tail _ (.tail _ (.tail _ (.tail _ (.tail _ (.tail _ (.tail _ (.head _)))))))))))))))) (e_er1 (π := id) (pe_er (c.oex 52) (c.init 54).1 (c.init 54).2 (xi_NotEnough c).choose_spec.1 passL (hr.r.mono (by decide)) (xi_NotEnough c).choose_spec.2.1 rfl (by decide) (c.glo 55) (a_cons (e_frz (e_var 0)) a_nil)) (fun _ => rfl) (c.glo 55))) (e_var 0)) (w_or1 (t_cmp (op_neD hr.r.units) m_ne (e_erF (erF_ok c 90 53 (.tail _ (.tail _ (.tail _ (.tail _ (.tail _ (.tail _ (.tail _ (.tail _ (.tail _ (.tail _ (.tail _ (.tail _ (.tail _ (.tail _ (.head _)))))))))))))))) (e_er1 (π := id) (pe_erK (c.oex 52) (c.init 54).1 (c.init 54).2 (xi_NotEnough c).choose_spec.1 passL (hr.r.mono (by decide)) (xi_NotEnough c).choose_spec.2.2 (fun _ _ => rfl) (c.glo 55) (k_consA (e_frz (e_var 0)) k_nilA)) (fun _ => rfl) (c.glo 55))) (e_var 0))))) (ss_one (s_ret e_bl))
      ss_nil)
      (ss_cons (s_fz 2 (s_set 2 nd (e_lst (a_cons (e_erF (erF_ok c 90 70 (.tail _ (.tail _ (.tail _ (.tail _ (.tail _ (.tail _ (.tail _ (.tail _ (.tail _ (.tail _ (.tail _ (.tail _ (.tail _ (.tail _ (.tail _ (.tail _ (.tail _ (.tail _ (.head _)))))))))))))))))))) (e_er1 (π := id) (pe_er (c.oex 69) (c.init 71).1 (c.init 71).2 (xi_NotSeen c).choose_spec.1 passL (hr.r.mono (by decide)) (xi_NotSeen c).choose_spec.2.1 rfl (by decide) (c.glo 72) (a_cons (e_frz (e_var 1)) a_nil)) (fun _ => rfl) (c.glo 72))) (a_cons (e_erF (erF_ok c 90 76 (.tail _ (.tail _ (.tail _ (.tail _ (.tail _ (.tail _ (.tail _ (.tail _ (.tail _ (.tail _ (.tail _ (.tail _ (.tail _ (.tail _ (.tail _ (.tail _ (.tail _ (.tail _ (.tail _ (.head _))))))))))))))))))))) (e_er1 (π := id) (pe_er (c.oex 75) (c.init 77).1 (c.init 77).2 (xi_OtherCounts c).choose_spec.1 passL (hr.r.mono (by decide)) (xi_OtherCounts c).choose_spec.2.1 rfl (by decide) (c.glo 78) (a_cons (e_frz (e_var 1)) a_nil)) (fun _ => rfl) (c.glo 78))) a_nil)))))
      (ss_cons (s_fz 2 (s_set 2 nd (e_bin o_add m_add (e_var 2) (e_lst (a_cons (e_erF (erF_ok c 90 70 (.tail _ (.tail _ (.tail _ (.tail _ (.tail _ (.tail _ (.tail _ (.tail _ (.tail _ (.tail _ (.tail _ (.tail _ (.tail _ (.tail _ (.tail _ (.tail _ (.tail _ (.tail _ (.head _)))))))))))))))))))) (e_er1 (π := id) (pe_erK (c.oex 69) (c.init 71).1 (c.init 71).2 (xi_NotSeen c).choose_spec.1 passL (hr.r.mono (by decide)) (xi_NotSeen c).choose_spec.2.2 (fun _ _ => rfl) (c.glo 72) (k_consA (e_frz (e_var 1)) k_nilA)) (fun _ => rfl) (c.glo 72))) (a_cons (e_erF (erF_ok c 90 76 (.tail _ (.tail _ (.tail _ (.tail _ (.tail _ (.tail _ (.tail _ (.tail _ (.tail _ (.tail _ (.tail _ (.tail _ (.tail _ (.tail _ (.tail _ (.tail _ (.tail _ (.tail _ (.tail _ (.head _))))))))))))))))))))) (e_er1 (π := id) (pe_erK (c.oex 75) (c.init 77).1 (c.init 77).2 (xi_OtherCounts c).choose_spec.1 passL (hr.r.mono (by decide)) (xi_OtherCounts c).choose_spec.2.2 (fun _ _ => rfl) (c.glo 78) (k_consA (e_frz (e_var 1)) k_nilA)) (fun _ => rfl) (c.glo 78))) a_nil))))))
      (ss_one (s_ret (e_cmp (op_eqD hr.r.units) m_eq (e_var 2) (e_bin o_mul m_mul (e_lst (a_cons (e_frz (e_var 1)) a_nil)) e_int)))))))))
def m0_law : List Slot → RF := funM 8
    (fz0 0 (seqM (fzS 1 (asgM 1 (lstM (consA (frzM (er0 "BadBlocks")) (consA (frzM (er1 "BadCount" "at" (consA (conM (.int 0)) nilA))) (consA (frzM (er0 "BadCover")) (consA (frzM (er1 "BadEntry" "at" (consA (conM (.int 0)) nilA))) (consA (frzM (er0 "BadIns")) (consA (frzM (er1 "BadJump" "at" (consA (conM (.int 0)) nilA))) (consA (frzM (er0 "BadNumber")) nilA))))))))))
    (seqM (fzS 1 (asgM 1 (binM addD (varM 1) (lstM (consA (frzM (er1 "BadProgram" "at" (consA (conM (.int 0)) nilA))) (consA (frzM (er1 "BadText" "line" (consA (conM (.int 1)) nilA))) nilA))))))
    (seqM (fzS 1 (asgM 1 (binM addD (varM 1) (lstM (consA (frzM (er1 "NoBlock" "block" (consA (conM (.int 9)) nilA))) (consA (frzM (er0 "NoCeiling")) (consA (frzM (er0 "NoFloor")) (consA (frzM (er1 "NoItem" "item" (consA (conM (.int 9)) nilA))) (consA (frzM (er1 "NoJump" "jump" (consA (tupM (consA (conM (.int 0)) (consA (conM (.int 1)) nilA))) nilA))) (consA (frzM (er1 "NoMark" "number" (consA (conM (.int 1)) nilA))) (consA (frzM (er1 "NoRun" "run" (consA (tupM (consA (conM (.int 0)) (consA (conM (.int 1)) nilA))) nilA))) nilA)))))))))))
    (seqM (fzS 1 (asgM 1 (binM addD (varM 1) (lstM (consA (frzM (er1 "NotEnough" "run" (consA (tupM (consA (conM (.int 0)) (consA (conM (.int 1)) nilA))) nilA))) (consA (frzM (er1 "NotInner" "block" (consA (conM (.int 0)) nilA))) (consA (frzM (er1 "NotPassed" "block" (consA (conM (.int 1)) nilA))) (consA (frzM (er2 false "NotPossible" "least" "greatest" (consA (conM (.int 0)) (consA (conM (.int 1)) nilA)))) (consA (frzM (er1 "NotSeen" "jump" (consA (tupM (consA (conM (.int 0)) (consA (conM (.int 1)) nilA))) nilA))) (consA (frzM (er0 "NotTwins")) nilA))))))))))
    (seqM (fzS 1 (asgM 1 (binM addD (varM 1) (lstM (consA (frzM (er1 "OtherCounts" "jump" (consA (tupM (consA (conM (.int 0)) (consA (conM (.int 1)) nilA))) nilA))) (consA (frzM (er0 "OtherRoutine")) (consA (frzM (er1 "TooLarge" "bound" (consA (conM (.int 40)) nilA))) (consA (frzM (er1 "Uneven" "block" (consA (conM (.int 1)) nilA))) nilA))))))))
    (seqM (fgtS [2, 3] (forM (enumM (consA (varM 1) nilA)) (tgT [(tgN 2), (tgN 3)])
    (fgaS [2, 3] (seqM (ifS (binM neD (callN 1 m__law_kinds (consA (varM 3) nilA)) (lcM [7] (rng1 (consA (conM (.int 26)) nilA)) (tgN 7) (conM (.bl true)) (binM eqD (varM 7) (varM 2)))) (retM (conM (.bl false)))
    nxM)
    (ifS (orM (notM (isE (tcE ["BadBlocks", "BadJump", "TooLarge", "NoBlock", "NoJump", "NoRun", "NoItem", "NotInner", "OtherRoutine", "BadCount", "Uneven", "BadNumber", "BadEntry", "NotPassed", "NotEnough", "NoCeiling", "NoFloor", "NotPossible", "NotSeen", "OtherCounts", "BadCover", "BadIns", "NotTwins", "BadProgram", "NoMark", "BadText"] (fun _ => true)) (varM 3))) (notM (isE (tcE ["BadBlocks", "BadJump", "TooLarge", "NoBlock", "NoJump", "NoRun", "NoItem", "NotInner", "OtherRoutine", "BadCount", "Uneven", "BadNumber", "BadEntry", "NotPassed", "NotEnough", "NoCeiling", "NoFloor", "NotPossible", "NotSeen", "OtherCounts", "BadCover", "BadIns", "NotTwins", "BadProgram", "NoMark", "BadText"] (fun _ => true)) (varM 3)))) (retM (conM (.bl false)))
    nxM)))))
    (seqM (fgtS [4, 5, 6] (forM (rng1 (consA (bltM maxD (consA (conM (.int 1)) (consA (bltM minD (consA (conM (.int 2)) (consA (bltM lenD (consA (varM 0) nilA)) nilA))) nilA))) nilA)) (tgN 4)
    (fgaS [4, 5, 6] (seqM (asgM 5 (callN 2 m__law_feed (consA (varM 0) (consA (varM 4) nilA))))
    (seqM (ifS (notM (callN 1 m__law_numbers_right (consA (callN 2 m__law_take (consA (varM 5) (consA (conM (.int 99)) nilA))) nilA))) (retM (conM (.bl false)))
    nxM)
    (seqM (ifS (notM (callN 1 m__law_others_right (consA (callN 2 m__law_pick (consA (varM 5) (consA (lstM (consA (conM (.int 7)) (consA (conM .non) (consA (conM (.str "x")) (consA (tupM (consA (conM (.int 0)) (consA (conM (.int 1)) nilA))) (consA (tupM nilA) (consA (frzM (lstM (consA (conM (.int 0)) (consA (conM (.int 1)) nilA)))) (consA (conM (.bl true)) (consA (binM powD (conM (.int 10)) (conM (.int 30))) nilA))))))))) nilA))) nilA))) (retM (conM (.bl false)))
    nxM)
    (seqM (fzS 6 (asgM 6 (callN 2 m__law_take (consA (varM 5) (consA (conM (.int 20)) nilA)))))
    (ifS (notM (callN 2 m__law_runs_right (consA (tupM (consA (conM (.int 0)) (consA (frzM (binM addD (varM 6) (conM (.int 1)))) (consA (conM (.int 30)) nilA)))) (consA (tupM (consA (frzM (varM 6)) (consA (frzM (binM addD (binM addD (varM 6) (conM (.int 1))) (callN 2 m__law_take (consA (varM 5) (consA (conM (.int 9)) nilA))))) nilA))) nilA)))) (retM (conM (.bl false)))
    nxM))))))))
    (retM (notM (conM (.bl false))))))))))))
@[irreducible] def m_law : List Slot → RF := m0_law
theorem mx_law : m_law = m0_law := by unfold m_law; rfl
theorem sc_law : FnScope ["_law_script", "_law_made", "_law_nth", "_law_one", "_law_k", "_law_feed_here", "_law_low", "_law_nr"] ["_law_script"] (defScope s_law) := ⟨rfl, rfl, rfl, by decide +kernel, rfl, by decide +kernel, by decide +kernel⟩
theorem ok_law (c : Hd bk fn K mg) : ∃ fd, FnG P w K mg base (L2.CX P w) 4 (gA "law" K) fd ["_law_script"] (spM K mg 1 m_law) ∧ Binds K fd ["_law_script"] [] ∧ fdV K (gA "law" K) = some fd := by
  rw [mx_law]
  obtain ⟨fd, hfd, F⟩ := c.fnAt 25 (d := d_law)
  refine ⟨fd, fun_ok (k := 3) F sc_law rfl rfl fun cdv A outer s H E B hr => ?_, F.binds fun _ _ _ _ _ _ us hl => match us, hl with | [_], _ => rfl, hfd⟩
  have nd := sc_law.nd
  exact (ss_fz0 0 (ss_cons (s_fz 1 (s_set 1 nd (e_lst (a_cons (e_frz (e_er0 (pe_er0 PySem.F.excBase_ValueError (c.exc 0).1 (c.glo 1) (c.exc 0).2.1 rfl) (c.glo 1))) (a_cons (e_frz (e_er1 (π := id) (pe_er (c.oex 2) (c.init 4).1 (c.init 4).2 (xi_BadCount c).choose_spec.1 passL (hr.r.mono (by decide)) (xi_BadCount c).choose_spec.2.1 rfl (by decide) (c.glo 5) (a_cons e_int a_nil)) (fun _ => rfl) (c.glo 5))) (a_cons (e_frz (e_er0 (pe_er0 PySem.F.excBase_ValueError (c.exc 6).1 (c.glo 7) (c.exc 6).2.1 rfl) (c.glo 7))) (a_cons (e_frz (e_er1 (π := id) (pe_er (c.oex 8) (c.init 10).1 (c.init 10).2 (xi_BadEntry c).choose_spec.1 passL (hr.r.mono (by decide)) (xi_BadEntry c).choose_spec.2.1 rfl (by decide) (c.glo 11) (a_cons e_int a_nil)) (fun _ => rfl) (c.glo 11))) (a_cons (e_frz (e_er0 (pe_er0 PySem.F.excBase_ValueError (c.exc 12).1 (c.glo 13) (c.exc 12).2.1 rfl) (c.glo 13))) (a_cons (e_frz (e_er1 (π := id) (pe_er (c.oex 14) (c.init 16).1 (c.init 16).2 (xi_BadJump c).choose_spec.1 passL (hr.r.mono (by decide)) (xi_BadJump c).choose_spec.2.1 rfl (by decide) (c.glo 17) (a_cons e_int a_nil)) (fun _ => rfl) (c.glo 17))) (a_cons (e_frz (e_er0 (pe_er0 PySem.F.excBase_ValueError (c.exc 18).1 (c.glo 19) (c.exc 18).2.1 rfl) (c.glo 19))) a_nil))))))))))
      (ss_cons (s_fz 1 (s_set 1 nd (e_bin o_add m_add (e_var 1) (e_lst (a_cons (e_frz (e_er1 (π := id) (pe_er (c.oex 20) (c.init 22).1 (c.init 22).2 (xi_BadProgram c).choose_spec.1 passL (hr.r.mono (by decide)) (xi_BadProgram c).choose_spec.2.1 rfl (by decide) (c.glo 23) (a_cons e_int a_nil)) (fun _ => rfl) (c.glo 23))) (a_cons (e_frz (e_er1 (π := id) (pe_er (c.oex 24) (c.init 26).1 (c.init 26).2 (xi_BadText c).choose_spec.1 passL (hr.r.mono (by decide)) (xi_BadText c).choose_spec.2.1 rfl (by decide) (c.glo 27) (a_cons e_int a_nil)) (fun _ => rfl) (c.glo 27))) a_nil))))))
      (ss_cons (s_fz 1 (s_set 1 nd (e_bin o_add m_add (e_var 1) (e_lst (a_cons (e_frz (e_er1 (π := id) (pe_er (c.oex 28) (c.init 30).1 (c.init 30).2 (xi_NoBlock c).choose_spec.1 passL (hr.r.mono (by decide)) (xi_NoBlock c).choose_spec.2.1 rfl (by decide) (c.glo 31) (a_cons e_int a_nil)) (fun _ => rfl) (c.glo 31))) (a_cons (e_frz (e_er0 (pe_er0 PySem.F.excBase_ValueError (c.exc 32).1 (c.glo 33) (c.exc 32).2.1 rfl) (c.glo 33))) (a_cons (e_frz (e_er0 (pe_er0 PySem.F.excBase_ValueError (c.exc 34).1 (c.glo 35) (c.exc 34).2.1 rfl) (c.glo 35))) (a_cons (e_frz (e_er1 (π := id) (pe_er (c.oex 36) (c.init 38).1 (c.init 38).2 (xi_NoItem c).choose_spec.1 passL (hr.r.mono (by decide)) (xi_NoItem c).choose_spec.2.1 rfl (by decide) (c.glo 39) (a_cons e_int a_nil)) (fun _ => rfl) (c.glo 39))) (a_cons (e_frz (e_er1 (π := id) (pe_er (c.oex 40) (c.init 42).1 (c.init 42).2 (xi_NoJump c).choose_spec.1 passL (hr.r.mono (by decide)) (xi_NoJump c).choose_spec.2.1 rfl (by decide) (c.glo 43) (a_cons (e_tup (a_cons e_int (a_cons e_int a_nil))) a_nil)) (fun _ => rfl) (c.glo 43))) (a_cons (e_frz (e_er1 (π := id) (pe_er (c.oex 44) (c.init 46).1 (c.init 46).2 (xi_NoMark c).choose_spec.1 passL (hr.r.mono (by decide)) (xi_NoMark c).choose_spec.2.1 rfl (by decide) (c.glo 47) (a_cons e_int a_nil)) (fun _ => rfl) (c.glo 47))) (a_cons (e_frz (e_er1 (π := id) (pe_er (c.oex 48) (c.init 50).1 (c.init 50).2 (xi_NoRun c).choose_spec.1 passL (hr.r.mono (by decide)) (xi_NoRun c).choose_spec.2.1 rfl (by decide) (c.glo 51) (a_cons (e_tup (a_cons e_int (a_cons e_int a_nil))) a_nil)) (fun _ => rfl) (c.glo 51))) a_nil)))))))))))
      (ss_cons (s_fz 1 (s_set 1 nd (e_bin o_add m_add (e_var 1) (e_lst (a_cons (e_frz (e_er1 (π := id) (pe_er (c.oex 52) (c.init 54).1 (c.init 54).2 (xi_NotEnough c).choose_spec.1 passL (hr.r.mono (by decide)) (xi_NotEnough c).choose_spec.2.1 rfl (by decide) (c.glo 55) (a_cons (e_tup (a_cons e_int (a_cons e_int a_nil))) a_nil)) (fun _ => rfl) (c.glo 55))) (a_cons (e_frz (e_er1 (π := id) (pe_er (c.oex 56) (c.init 58).1 (c.init 58).2 (xi_NotInner c).choose_spec.1 passL (hr.r.mono (by decide)) (xi_NotInner c).choose_spec.2.1 rfl (by decide) (c.glo 59) (a_cons e_int a_nil)) (fun _ => rfl) (c.glo 59))) (a_cons (e_frz (e_er1 (π := id) (pe_er (c.oex 60) (c.init 62).1 (c.init 62).2 (xi_NotPassed c).choose_spec.1 passL (hr.r.mono (by decide)) (xi_NotPassed c).choose_spec.2.1 rfl (by decide) (c.glo 63) (a_cons e_int a_nil)) (fun _ => rfl) (c.glo 63))) (a_cons (e_frz (e_er2 (sw := false) (π := id) (pe_er (c.oex 64) (c.init 67).1 (c.init 67).2 (xi_NotPossible c).choose_spec.1 passL (hr.r.mono (by decide)) (xi_NotPossible c).choose_spec.2.1 rfl (by decide) (c.glo 68) (a_cons e_int (a_cons e_int a_nil))) (fun _ _ => rfl) (c.glo 68))) (a_cons (e_frz (e_er1 (π := id) (pe_er (c.oex 69) (c.init 71).1 (c.init 71).2 (xi_NotSeen c).choose_spec.1 passL (hr.r.mono (by decide)) (xi_NotSeen c).choose_spec.2.1 rfl (by decide) (c.glo 72) (a_cons (e_tup (a_cons e_int (a_cons e_int a_nil))) a_nil)) (fun _ => rfl) (c.glo 72))) (a_cons (e_frz (e_er0 (pe_er0 PySem.F.excBase_ValueError (c.exc 73).1 (c.glo 74) (c.exc 73).2.1 rfl) (c.glo 74))) a_nil))))))))))
      (ss_cons (s_fz 1 (s_set 1 nd (e_bin o_add m_add (e_var 1) (e_lst (a_cons (e_frz (e_er1 (π := id) (pe_er (c.oex 75) (c.init 77).1 (c.init 77).2 (xi_OtherCounts c).choose_spec.1 passL (hr.r.mono (by decide)) (xi_OtherCounts c).choose_spec.2.1 rfl (by decide) (c.glo 78) (a_cons (e_tup (a_cons e_int (a_cons e_int a_nil))) a_nil)) (fun _ => rfl) (c.glo 78))) (a_cons (e_frz (e_er0 (pe_er0 PySem.F.excBase_ValueError (c.exc 79).1 (c.glo 80) (c.exc 79).2.1 rfl) (c.glo 80))) (a_cons (e_frz (e_er1 (π := id) (pe_er (c.oex 81) (c.init 83).1 (c.init 83).2 (xi_TooLarge c).choose_spec.1 passL (hr.r.mono (by decide)) (xi_TooLarge c).choose_spec.2.1 rfl (by decide) (c.glo 84) (a_cons e_int a_nil)) (fun _ => rfl) (c.glo 84))) (a_cons (e_frz (e_er1 (π := id) (pe_er (c.oex 85) (c.init 87).1 (c.init 87).2 (xi_Uneven c).choose_spec.1 passL (hr.r.mono (by decide)) (xi_Uneven c).choose_spec.2.1 rfl (by decide) (c.glo 88) (a_cons e_int a_nil)) (fun _ => rfl) (c.glo 88))) a_nil))))))))
      (ss_cons (s_fgt [2, 3] (s_for (passes_of rfl) rfl (i_enum (a_cons (e_var 1) a_nil) (by rfl) (c.free 89)) (g_tup rfl (gs_cons (g_name 2 nd) (gs_cons (g_name 3 nd) gs_nil)))
      (ss_fga [2, 3] (ss_cons (s_if (t_cmp (op_neD hr.r.units) m_ne (e_call (ok__law_kinds c).choose_spec.1 (hr.mono (by decide)) (c.glo 119) (c.keep 118) (ok__law_kinds c).choose_spec.2.1 (takes_of rfl rfl rfl rfl) (a_cons (e_var 3) a_nil)) (e_lc (ow := [("_law_nr", 7)]) rfl nd (i_range1 (a_cons e_int a_nil) (by rfl) (c.free 120)) (blkOk_by (N := ["_law_script", "_law_made", "_law_nth", "_law_one", "_law_k", "_law_feed_here", "_law_low", "_law_nr"]) (sc := (defScope s_law)) (by decide +kernel)) (fun _ _ _ _ _ => (g_name 7 nd))  (fun _ _ _ _ _ => (e_cmp (op_eqD hr.r.units) m_eq (e_var 7) (e_var 2))))) (ss_one (s_ret e_bl))
      ss_nil)
      (ss_one (s_if (pt_w (w_or (t_not (t_val (e_isE (isE_ok c 90 122) (.own _) (e_var 3) (pe_glob (by rfl) (c.glo 121) (show RelV (V.ref (gA "RunError" _)) (Value.ref (gA "RunError" _)) from rfl)) (c.free 92)))) (w_or1 (t_not (t_val (e_isE (isE_ok c 90 124) (.ty _) (e_var 3) (e_ty (c.free 123) boot_ValueError) (c.free 92))))))) (ss_one (s_ret e_bl))
      ss_nil))))))
      (ss_cons (s_fgt [4, 5, 6] (s_for (passes_of rfl) rfl (i_range1 (a_cons (e_blt m_max (call_max2 rfl) (c.free 127) PyProof.Rows.boot_max (a_cons e_int (a_cons (e_blt m_min (call_min2 rfl) (c.free 126) PyProof.Rows.boot_min (a_cons e_int (a_cons (e_blt m_len c_len (c.free 125) PySem.boot_len (a_cons (e_var 0) a_nil)) a_nil))) a_nil))) a_nil) (by rfl) (c.free 120)) (g_name 4 nd)
      (ss_fga [4, 5, 6] (ss_cons (s_set 5 nd (e_call (ok__law_feed c).choose_spec.1 (hr.mono (by decide)) (c.glo 131) (c.keep 130) (ok__law_feed c).choose_spec.2.1 (takes_of rfl rfl rfl rfl) (a_cons (e_var 0) (a_cons (e_var 4) a_nil))))
      (ss_cons (s_if (t_not (t_val (e_call (ok__law_numbers_right c).choose_spec.1 (hr.mono (by decide)) (c.glo 135) (c.keep 134) (ok__law_numbers_right c).choose_spec.2.1 (takes_of rfl rfl rfl rfl) (a_cons (e_call (ok__law_take c).choose_spec.1 (hr.mono (by decide)) (c.glo 133) (c.keep 132) (ok__law_take c).choose_spec.2.1 (takes_of rfl rfl rfl rfl) (a_cons (e_var 5) (a_cons e_int a_nil))) a_nil)))) (ss_one (s_ret e_bl))
      ss_nil)
      (ss_cons (s_if (t_not (t_val (e_call (ok__law_others_right c).choose_spec.1 (hr.mono (by decide)) (c.glo 140) (c.keep 139) (ok__law_others_right c).choose_spec.2.1 (takes_of rfl rfl rfl rfl) (a_cons (e_call (ok__law_pick c).choose_spec.1 (hr.mono (by decide)) (c.glo 138) (c.keep 137) (ok__law_pick c).choose_spec.2.1 (takes_of rfl rfl rfl rfl) (a_cons (e_var 5) (a_cons (e_lst (a_cons e_int (a_cons e_non (a_cons e_str (a_cons (e_tup (a_cons e_int (a_cons e_int a_nil))) (a_cons (e_tup a_nil) (a_cons (e_frz (e_lst (a_cons e_int (a_cons e_int a_nil)))) (a_cons e_bl (a_cons (e_bin op_pow m_pow e_int e_int) a_nil))))))))) a_nil))) a_nil)))) (ss_one (s_ret e_bl))
      ss_nil)
      (ss_cons (s_fz 6 (s_set 6 nd (e_call (ok__law_take c).choose_spec.1 (hr.mono (by decide)) (c.glo 133) (c.keep 132) (ok__law_take c).choose_spec.2.1 (takes_of rfl rfl rfl rfl) (a_cons (e_var 5) (a_cons e_int a_nil)))))
      (ss_one (s_if (t_not (t_val (e_call (ok__law_runs_right c).choose_spec.1 (hr.mono (by decide)) (c.glo 142) (c.keep 141) (ok__law_runs_right c).choose_spec.2.1 (takes_of rfl rfl rfl rfl) (a_cons (e_tup (a_cons e_int (a_cons (e_frz (e_bin o_add m_add (e_var 6) e_int)) (a_cons e_int a_nil)))) (a_cons (e_tup (a_cons (e_frz (e_var 6)) (a_cons (e_frz (e_bin o_add m_add (e_bin o_add m_add (e_var 6) e_int) (e_call (ok__law_take c).choose_spec.1 (hr.mono (by decide)) (c.glo 133) (c.keep 132) (ok__law_take c).choose_spec.2.1 (takes_of rfl rfl rfl rfl) (a_cons (e_var 5) (a_cons e_int a_nil))))) a_nil))) a_nil))))) (ss_one (s_ret e_bl))
      ss_nil)))))))))
      (ss_one (s_ret (e_not (e_isVE (show PySem.W.kitOne K (.type "ValueError") ((fun K => .ref (gA "RunError" K)) K) = some false from c.kit 143) (.own _) (pe_glob (by rfl) (c.glo 121) (show RelV (V.ref (gA "RunError" _)) (Value.ref (gA "RunError" _)) from rfl)) (c.free 92) (c.free 123)))))))))))))
theorem law_fd (c : Hd bk fn K mg) : ∃ fd, (∀ base : Heap, FnG P w K mg base (L2.CX P w) 4 (gA "law" K) fd ["_law_script"] (spM K mg 1 m_law)) ∧ ∀ (s : Shared) (u : Value), BindsTo s fd ⟨[u], []⟩ [("_law_script", u)] := by
  obtain ⟨fd, hfd, F⟩ := c.fnAt 25 (d := d_law)
  refine ⟨fd, fun base => ?_, fun s u => ?_⟩
  · obtain ⟨fd2, h1, _, h2⟩ := ok_law (P := P) (w := w) (base := base) c
    have e : some fd2 = some fd := h2.symm.trans hfd
    cases e
    exact h1
  · obtain ⟨oc, od, kV, doc, pm, an, cdv, ct, osl, rfl, lk, hcd⟩ := F.ex
    exact .of_eq rfl
end
end VM
open PySem PySem.W PySem.Calls PyProof.Rows
theorem VM.holds_of (hpure : ∀ ns : List Int, ns.length ≤ 63 → ∃ ps, VM.m_law [.dat (.scr ns)] = .ok (.dat (.bl true)) ps) : PySem.Challenge.rw_runledger_k73_errors_and_fields.Holds := by
  w_on; o_law
  refine HandSHeadRun.head_any (r := OpenLaw.row PySem.Challenge.rw_runledger_k73_errors_and_fields) (q := view (OpenLaw.row PySem.Challenge.rw_runledger_k73_errors_and_fields).prog [36]) (H := VM.hk) (ob := VM.ob) (M := 12000) (loose := VM.loose) (d := HandSHeadRun.topDef (OpenLaw.row PySem.Challenge.rw_runledger_k73_errors_and_fields).prog 36) (kwd := []) VM.ob_eq
    (by kernel_rfl) (fun s => by kernel_rfl) VM.run (by kernel_rfl) (by kernel_rfl) (by kernel_rfl) (by rfl) (by first | assumption | decide +kernel) (by decide +kernel) ⟨rfl, rfl, rfl, rfl, rfl, by decide +kernel⟩ ?hw ?hc
  case hw => w_witness2
  case hc =>
    refine VM.walk_ofG (l := PySem.Challenge.rw_runledger_k73_errors_and_fields) (n := 63) (k := 4) (x := "_law_script") (CX := L2.CX PySem.Challenge.pw_runledger_k73_errors_and_fields) rfl (by decide) (by kernel_rfl) ⟨⟨rfl, by decide, by decide⟩, rfl⟩ ?F ?C
    case C => exact fun w H s e s' z => VM.noCX z
    intro w mg fa h Y G hmg0
    obtain ⟨K, KX, c⟩ := Y
    have hc : VM.Hd VM.bk VM.fn K mg := ⟨c, h, KX, G⟩
    have hmg : mg ("law" : PySem.Str) = some (.ref fa) := by
      have e : (HandSHeadRun.topDef (OpenLaw.row PySem.Challenge.rw_runledger_k73_errors_and_fields).prog 36).name = ("law" : PySem.Str) := by kernel_rfl
      rw [← e]
      exact hmg0
    have e := hmg.symm.trans (hc.glo 144)
    cases e
    obtain ⟨fd, F, hF⟩ := VM.law_fd (w := w) hc
    refine ⟨K, fd, _, KX, fun s u => ?_, fun H a ns hl _ hS => VM.law_sp hS (hpure ns hl), fun base _ _ => F base⟩
    exact hF s u
set_option maxHeartbeats 400000
namespace VM
open PySem PySem.Spec L2
theorem nD0 : ([0] : List Nat).Nodup := by decide
theorem nD1 : ([] : List Nat).Nodup := by decide
theorem nD2 : ([5] : List Nat).Nodup := by decide
abbrev P_law_kinds (x1 : D) : LS := [(.dat x1)]
abbrev R_law_kinds (x1 : D) : (List Bool) → Slot × LS := fun v => ((.dat ((eL D.bl) v)), [(.dat x1)])
def b_law_kinds_9 : SM := (retM (frzM (binM addD (varM 1) (lstM (consA (frzM (isE (tcE ["BadBlocks", "BadJump", "TooLarge", "NoBlock", "NoJump", "NoRun", "NoItem", "NotInner", "OtherRoutine", "BadCount", "Uneven", "BadNumber", "BadEntry", "NotPassed", "NotEnough", "NoCeiling", "NoFloor", "NotPossible", "NotSeen", "OtherCounts", "BadCover", "BadIns", "NotTwins", "BadProgram", "NoMark", "BadText"] (fun y => y == "TooLarge")) (varM 0))) (consA (frzM (isE (tcE ["BadBlocks", "BadJump", "TooLarge", "NoBlock", "NoJump", "NoRun", "NoItem", "NotInner", "OtherRoutine", "BadCount", "Uneven", "BadNumber", "BadEntry", "NotPassed", "NotEnough", "NoCeiling", "NoFloor", "NotPossible", "NotSeen", "OtherCounts", "BadCover", "BadIns", "NotTwins", "BadProgram", "NoMark", "BadText"] (fun y => y == "Uneven")) (varM 0))) nilA))))))
def b_law_kinds_8 : SM := (seqM (fzS 1 (asgM 1 (binM addD (varM 1) (lstM (consA (frzM (isE (tcE ["BadBlocks", "BadJump", "TooLarge", "NoBlock", "NoJump", "NoRun", "NoItem", "NotInner", "OtherRoutine", "BadCount", "Uneven", "BadNumber", "BadEntry", "NotPassed", "NotEnough", "NoCeiling", "NoFloor", "NotPossible", "NotSeen", "OtherCounts", "BadCover", "BadIns", "NotTwins", "BadProgram", "NoMark", "BadText"] (fun y => y == "OtherCounts")) (varM 0))) (consA (frzM (isE (tcE ["BadBlocks", "BadJump", "TooLarge", "NoBlock", "NoJump", "NoRun", "NoItem", "NotInner", "OtherRoutine", "BadCount", "Uneven", "BadNumber", "BadEntry", "NotPassed", "NotEnough", "NoCeiling", "NoFloor", "NotPossible", "NotSeen", "OtherCounts", "BadCover", "BadIns", "NotTwins", "BadProgram", "NoMark", "BadText"] (fun y => y == "OtherRoutine")) (varM 0))) nilA)))))) b_law_kinds_9)
def b_law_kinds_7 : SM := (seqM (fzS 1 (asgM 1 (binM addD (varM 1) (lstM (consA (frzM (isE (tcE ["BadBlocks", "BadJump", "TooLarge", "NoBlock", "NoJump", "NoRun", "NoItem", "NotInner", "OtherRoutine", "BadCount", "Uneven", "BadNumber", "BadEntry", "NotPassed", "NotEnough", "NoCeiling", "NoFloor", "NotPossible", "NotSeen", "OtherCounts", "BadCover", "BadIns", "NotTwins", "BadProgram", "NoMark", "BadText"] (fun y => y == "NotPossible")) (varM 0))) (consA (frzM (isE (tcE ["BadBlocks", "BadJump", "TooLarge", "NoBlock", "NoJump", "NoRun", "NoItem", "NotInner", "OtherRoutine", "BadCount", "Uneven", "BadNumber", "BadEntry", "NotPassed", "NotEnough", "NoCeiling", "NoFloor", "NotPossible", "NotSeen", "OtherCounts", "BadCover", "BadIns", "NotTwins", "BadProgram", "NoMark", "BadText"] (fun y => y == "NotSeen")) (varM 0))) (consA (frzM (isE (tcE ["BadBlocks", "BadJump", "TooLarge", "NoBlock", "NoJump", "NoRun", "NoItem", "NotInner", "OtherRoutine", "BadCount", "Uneven", "BadNumber", "BadEntry", "NotPassed", "NotEnough", "NoCeiling", "NoFloor", "NotPossible", "NotSeen", "OtherCounts", "BadCover", "BadIns", "NotTwins", "BadProgram", "NoMark", "BadText"] (fun y => y == "NotTwins")) (varM 0))) nilA))))))) b_law_kinds_8)
def b_law_kinds_6 : SM := (seqM (fzS 1 (asgM 1 (binM addD (varM 1) (lstM (consA (frzM (isE (tcE ["BadBlocks", "BadJump", "TooLarge", "NoBlock", "NoJump", "NoRun", "NoItem", "NotInner", "OtherRoutine", "BadCount", "Uneven", "BadNumber", "BadEntry", "NotPassed", "NotEnough", "NoCeiling", "NoFloor", "NotPossible", "NotSeen", "OtherCounts", "BadCover", "BadIns", "NotTwins", "BadProgram", "NoMark", "BadText"] (fun y => y == "NotEnough")) (varM 0))) (consA (frzM (isE (tcE ["BadBlocks", "BadJump", "TooLarge", "NoBlock", "NoJump", "NoRun", "NoItem", "NotInner", "OtherRoutine", "BadCount", "Uneven", "BadNumber", "BadEntry", "NotPassed", "NotEnough", "NoCeiling", "NoFloor", "NotPossible", "NotSeen", "OtherCounts", "BadCover", "BadIns", "NotTwins", "BadProgram", "NoMark", "BadText"] (fun y => y == "NotInner")) (varM 0))) (consA (frzM (isE (tcE ["BadBlocks", "BadJump", "TooLarge", "NoBlock", "NoJump", "NoRun", "NoItem", "NotInner", "OtherRoutine", "BadCount", "Uneven", "BadNumber", "BadEntry", "NotPassed", "NotEnough", "NoCeiling", "NoFloor", "NotPossible", "NotSeen", "OtherCounts", "BadCover", "BadIns", "NotTwins", "BadProgram", "NoMark", "BadText"] (fun y => y == "NotPassed")) (varM 0))) nilA))))))) b_law_kinds_7)
def b_law_kinds_5 : SM := (seqM (fzS 1 (asgM 1 (binM addD (varM 1) (lstM (consA (frzM (isE (tcE ["BadBlocks", "BadJump", "TooLarge", "NoBlock", "NoJump", "NoRun", "NoItem", "NotInner", "OtherRoutine", "BadCount", "Uneven", "BadNumber", "BadEntry", "NotPassed", "NotEnough", "NoCeiling", "NoFloor", "NotPossible", "NotSeen", "OtherCounts", "BadCover", "BadIns", "NotTwins", "BadProgram", "NoMark", "BadText"] (fun y => y == "NoJump")) (varM 0))) (consA (frzM (isE (tcE ["BadBlocks", "BadJump", "TooLarge", "NoBlock", "NoJump", "NoRun", "NoItem", "NotInner", "OtherRoutine", "BadCount", "Uneven", "BadNumber", "BadEntry", "NotPassed", "NotEnough", "NoCeiling", "NoFloor", "NotPossible", "NotSeen", "OtherCounts", "BadCover", "BadIns", "NotTwins", "BadProgram", "NoMark", "BadText"] (fun y => y == "NoMark")) (varM 0))) (consA (frzM (isE (tcE ["BadBlocks", "BadJump", "TooLarge", "NoBlock", "NoJump", "NoRun", "NoItem", "NotInner", "OtherRoutine", "BadCount", "Uneven", "BadNumber", "BadEntry", "NotPassed", "NotEnough", "NoCeiling", "NoFloor", "NotPossible", "NotSeen", "OtherCounts", "BadCover", "BadIns", "NotTwins", "BadProgram", "NoMark", "BadText"] (fun y => y == "NoRun")) (varM 0))) nilA))))))) b_law_kinds_6)
def b_law_kinds_4 : SM := (seqM (fzS 1 (asgM 1 (binM addD (varM 1) (lstM (consA (frzM (isE (tcE ["BadBlocks", "BadJump", "TooLarge", "NoBlock", "NoJump", "NoRun", "NoItem", "NotInner", "OtherRoutine", "BadCount", "Uneven", "BadNumber", "BadEntry", "NotPassed", "NotEnough", "NoCeiling", "NoFloor", "NotPossible", "NotSeen", "OtherCounts", "BadCover", "BadIns", "NotTwins", "BadProgram", "NoMark", "BadText"] (fun y => y == "NoCeiling")) (varM 0))) (consA (frzM (isE (tcE ["BadBlocks", "BadJump", "TooLarge", "NoBlock", "NoJump", "NoRun", "NoItem", "NotInner", "OtherRoutine", "BadCount", "Uneven", "BadNumber", "BadEntry", "NotPassed", "NotEnough", "NoCeiling", "NoFloor", "NotPossible", "NotSeen", "OtherCounts", "BadCover", "BadIns", "NotTwins", "BadProgram", "NoMark", "BadText"] (fun y => y == "NoFloor")) (varM 0))) (consA (frzM (isE (tcE ["BadBlocks", "BadJump", "TooLarge", "NoBlock", "NoJump", "NoRun", "NoItem", "NotInner", "OtherRoutine", "BadCount", "Uneven", "BadNumber", "BadEntry", "NotPassed", "NotEnough", "NoCeiling", "NoFloor", "NotPossible", "NotSeen", "OtherCounts", "BadCover", "BadIns", "NotTwins", "BadProgram", "NoMark", "BadText"] (fun y => y == "NoItem")) (varM 0))) nilA))))))) b_law_kinds_5)
def b_law_kinds_3 : SM := (seqM (fzS 1 (asgM 1 (binM addD (varM 1) (lstM (consA (frzM (isE (tcE ["BadBlocks", "BadJump", "TooLarge", "NoBlock", "NoJump", "NoRun", "NoItem", "NotInner", "OtherRoutine", "BadCount", "Uneven", "BadNumber", "BadEntry", "NotPassed", "NotEnough", "NoCeiling", "NoFloor", "NotPossible", "NotSeen", "OtherCounts", "BadCover", "BadIns", "NotTwins", "BadProgram", "NoMark", "BadText"] (fun y => y == "BadText")) (varM 0))) (consA (frzM (isE (tcE ["BadBlocks", "BadJump", "TooLarge", "NoBlock", "NoJump", "NoRun", "NoItem", "NotInner", "OtherRoutine", "BadCount", "Uneven", "BadNumber", "BadEntry", "NotPassed", "NotEnough", "NoCeiling", "NoFloor", "NotPossible", "NotSeen", "OtherCounts", "BadCover", "BadIns", "NotTwins", "BadProgram", "NoMark", "BadText"] (fun y => y == "NoBlock")) (varM 0))) nilA)))))) b_law_kinds_4)
def b_law_kinds_2 : SM := (seqM (fzS 1 (asgM 1 (binM addD (varM 1) (lstM (consA (frzM (isE (tcE ["BadBlocks", "BadJump", "TooLarge", "NoBlock", "NoJump", "NoRun", "NoItem", "NotInner", "OtherRoutine", "BadCount", "Uneven", "BadNumber", "BadEntry", "NotPassed", "NotEnough", "NoCeiling", "NoFloor", "NotPossible", "NotSeen", "OtherCounts", "BadCover", "BadIns", "NotTwins", "BadProgram", "NoMark", "BadText"] (fun y => y == "BadNumber")) (varM 0))) (consA (frzM (isE (tcE ["BadBlocks", "BadJump", "TooLarge", "NoBlock", "NoJump", "NoRun", "NoItem", "NotInner", "OtherRoutine", "BadCount", "Uneven", "BadNumber", "BadEntry", "NotPassed", "NotEnough", "NoCeiling", "NoFloor", "NotPossible", "NotSeen", "OtherCounts", "BadCover", "BadIns", "NotTwins", "BadProgram", "NoMark", "BadText"] (fun y => y == "BadProgram")) (varM 0))) nilA)))))) b_law_kinds_3)
def b_law_kinds_1 : SM := (seqM (fzS 1 (asgM 1 (binM addD (varM 1) (lstM (consA (frzM (isE (tcE ["BadBlocks", "BadJump", "TooLarge", "NoBlock", "NoJump", "NoRun", "NoItem", "NotInner", "OtherRoutine", "BadCount", "Uneven", "BadNumber", "BadEntry", "NotPassed", "NotEnough", "NoCeiling", "NoFloor", "NotPossible", "NotSeen", "OtherCounts", "BadCover", "BadIns", "NotTwins", "BadProgram", "NoMark", "BadText"] (fun y => y == "BadEntry")) (varM 0))) (consA (frzM (isE (tcE ["BadBlocks", "BadJump", "TooLarge", "NoBlock", "NoJump", "NoRun", "NoItem", "NotInner", "OtherRoutine", "BadCount", "Uneven", "BadNumber", "BadEntry", "NotPassed", "NotEnough", "NoCeiling", "NoFloor", "NotPossible", "NotSeen", "OtherCounts", "BadCover", "BadIns", "NotTwins", "BadProgram", "NoMark", "BadText"] (fun y => y == "BadIns")) (varM 0))) (consA (frzM (isE (tcE ["BadBlocks", "BadJump", "TooLarge", "NoBlock", "NoJump", "NoRun", "NoItem", "NotInner", "OtherRoutine", "BadCount", "Uneven", "BadNumber", "BadEntry", "NotPassed", "NotEnough", "NoCeiling", "NoFloor", "NotPossible", "NotSeen", "OtherCounts", "BadCover", "BadIns", "NotTwins", "BadProgram", "NoMark", "BadText"] (fun y => y == "BadJump")) (varM 0))) nilA))))))) b_law_kinds_2)
def k_law_kinds (x1 : D) : Ctl (List Bool) Empty Unit :=
(optR (isX (tcE ["BadBlocks", "BadJump", "TooLarge", "NoBlock", "NoJump", "NoRun", "NoItem", "NotInner", "OtherRoutine", "BadCount", "Uneven", "BadNumber", "BadEntry", "NotPassed", "NotEnough", "NoCeiling", "NoFloor", "NotPossible", "NotSeen", "OtherCounts", "BadCover", "BadIns", "NotTwins", "BadProgram", "NoMark", "BadText"] (fun y => y == "BadBlocks")) x1)).bindD fun x2 =>
(optR (isX (tcE ["BadBlocks", "BadJump", "TooLarge", "NoBlock", "NoJump", "NoRun", "NoItem", "NotInner", "OtherRoutine", "BadCount", "Uneven", "BadNumber", "BadEntry", "NotPassed", "NotEnough", "NoCeiling", "NoFloor", "NotPossible", "NotSeen", "OtherCounts", "BadCover", "BadIns", "NotTwins", "BadProgram", "NoMark", "BadText"] (fun y => y == "BadCount")) x1)).bindD fun x3 =>
(optR (isX (tcE ["BadBlocks", "BadJump", "TooLarge", "NoBlock", "NoJump", "NoRun", "NoItem", "NotInner", "OtherRoutine", "BadCount", "Uneven", "BadNumber", "BadEntry", "NotPassed", "NotEnough", "NoCeiling", "NoFloor", "NotPossible", "NotSeen", "OtherCounts", "BadCover", "BadIns", "NotTwins", "BadProgram", "NoMark", "BadText"] (fun y => y == "BadCover")) x1)).bindD fun x4 =>
letC ([x2, x3, x4]) fun x5 : (List Bool) =>
(optR (isX (tcE ["BadBlocks", "BadJump", "TooLarge", "NoBlock", "NoJump", "NoRun", "NoItem", "NotInner", "OtherRoutine", "BadCount", "Uneven", "BadNumber", "BadEntry", "NotPassed", "NotEnough", "NoCeiling", "NoFloor", "NotPossible", "NotSeen", "OtherCounts", "BadCover", "BadIns", "NotTwins", "BadProgram", "NoMark", "BadText"] (fun y => y == "BadEntry")) x1)).bindD fun x6 =>
(optR (isX (tcE ["BadBlocks", "BadJump", "TooLarge", "NoBlock", "NoJump", "NoRun", "NoItem", "NotInner", "OtherRoutine", "BadCount", "Uneven", "BadNumber", "BadEntry", "NotPassed", "NotEnough", "NoCeiling", "NoFloor", "NotPossible", "NotSeen", "OtherCounts", "BadCover", "BadIns", "NotTwins", "BadProgram", "NoMark", "BadText"] (fun y => y == "BadIns")) x1)).bindD fun x7 =>
(optR (isX (tcE ["BadBlocks", "BadJump", "TooLarge", "NoBlock", "NoJump", "NoRun", "NoItem", "NotInner", "OtherRoutine", "BadCount", "Uneven", "BadNumber", "BadEntry", "NotPassed", "NotEnough", "NoCeiling", "NoFloor", "NotPossible", "NotSeen", "OtherCounts", "BadCover", "BadIns", "NotTwins", "BadProgram", "NoMark", "BadText"] (fun y => y == "BadJump")) x1)).bindD fun x8 =>
gdC (x5.length + ([x6, x7, x8]).length ≤ 1000000) (
letC (x5 ++ ([x6, x7, x8])) fun x10 : (List Bool) =>
(optR (isX (tcE ["BadBlocks", "BadJump", "TooLarge", "NoBlock", "NoJump", "NoRun", "NoItem", "NotInner", "OtherRoutine", "BadCount", "Uneven", "BadNumber", "BadEntry", "NotPassed", "NotEnough", "NoCeiling", "NoFloor", "NotPossible", "NotSeen", "OtherCounts", "BadCover", "BadIns", "NotTwins", "BadProgram", "NoMark", "BadText"] (fun y => y == "BadNumber")) x1)).bindD fun x11 =>
(optR (isX (tcE ["BadBlocks", "BadJump", "TooLarge", "NoBlock", "NoJump", "NoRun", "NoItem", "NotInner", "OtherRoutine", "BadCount", "Uneven", "BadNumber", "BadEntry", "NotPassed", "NotEnough", "NoCeiling", "NoFloor", "NotPossible", "NotSeen", "OtherCounts", "BadCover", "BadIns", "NotTwins", "BadProgram", "NoMark", "BadText"] (fun y => y == "BadProgram")) x1)).bindD fun x12 =>
gdC (x10.length + ([x11, x12]).length ≤ 1000000) (
letC (x10 ++ ([x11, x12])) fun x14 : (List Bool) =>
(optR (isX (tcE ["BadBlocks", "BadJump", "TooLarge", "NoBlock", "NoJump", "NoRun", "NoItem", "NotInner", "OtherRoutine", "BadCount", "Uneven", "BadNumber", "BadEntry", "NotPassed", "NotEnough", "NoCeiling", "NoFloor", "NotPossible", "NotSeen", "OtherCounts", "BadCover", "BadIns", "NotTwins", "BadProgram", "NoMark", "BadText"] (fun y => y == "BadText")) x1)).bindD fun x15 =>
(optR (isX (tcE ["BadBlocks", "BadJump", "TooLarge", "NoBlock", "NoJump", "NoRun", "NoItem", "NotInner", "OtherRoutine", "BadCount", "Uneven", "BadNumber", "BadEntry", "NotPassed", "NotEnough", "NoCeiling", "NoFloor", "NotPossible", "NotSeen", "OtherCounts", "BadCover", "BadIns", "NotTwins", "BadProgram", "NoMark", "BadText"] (fun y => y == "NoBlock")) x1)).bindD fun x16 =>
gdC (x14.length + ([x15, x16]).length ≤ 1000000) (
letC (x14 ++ ([x15, x16])) fun x18 : (List Bool) =>
(optR (isX (tcE ["BadBlocks", "BadJump", "TooLarge", "NoBlock", "NoJump", "NoRun", "NoItem", "NotInner", "OtherRoutine", "BadCount", "Uneven", "BadNumber", "BadEntry", "NotPassed", "NotEnough", "NoCeiling", "NoFloor", "NotPossible", "NotSeen", "OtherCounts", "BadCover", "BadIns", "NotTwins", "BadProgram", "NoMark", "BadText"] (fun y => y == "NoCeiling")) x1)).bindD fun x19 =>
(optR (isX (tcE ["BadBlocks", "BadJump", "TooLarge", "NoBlock", "NoJump", "NoRun", "NoItem", "NotInner", "OtherRoutine", "BadCount", "Uneven", "BadNumber", "BadEntry", "NotPassed", "NotEnough", "NoCeiling", "NoFloor", "NotPossible", "NotSeen", "OtherCounts", "BadCover", "BadIns", "NotTwins", "BadProgram", "NoMark", "BadText"] (fun y => y == "NoFloor")) x1)).bindD fun x20 =>
(optR (isX (tcE ["BadBlocks", "BadJump", "TooLarge", "NoBlock", "NoJump", "NoRun", "NoItem", "NotInner", "OtherRoutine", "BadCount", "Uneven", "BadNumber", "BadEntry", "NotPassed", "NotEnough", "NoCeiling", "NoFloor", "NotPossible", "NotSeen", "OtherCounts", "BadCover", "BadIns", "NotTwins", "BadProgram", "NoMark", "BadText"] (fun y => y == "NoItem")) x1)).bindD fun x21 =>
gdC (x18.length + ([x19, x20, x21]).length ≤ 1000000) (
letC (x18 ++ ([x19, x20, x21])) fun x23 : (List Bool) =>
(optR (isX (tcE ["BadBlocks", "BadJump", "TooLarge", "NoBlock", "NoJump", "NoRun", "NoItem", "NotInner", "OtherRoutine", "BadCount", "Uneven", "BadNumber", "BadEntry", "NotPassed", "NotEnough", "NoCeiling", "NoFloor", "NotPossible", "NotSeen", "OtherCounts", "BadCover", "BadIns", "NotTwins", "BadProgram", "NoMark", "BadText"] (fun y => y == "NoJump")) x1)).bindD fun x24 =>
(optR (isX (tcE ["BadBlocks", "BadJump", "TooLarge", "NoBlock", "NoJump", "NoRun", "NoItem", "NotInner", "OtherRoutine", "BadCount", "Uneven", "BadNumber", "BadEntry", "NotPassed", "NotEnough", "NoCeiling", "NoFloor", "NotPossible", "NotSeen", "OtherCounts", "BadCover", "BadIns", "NotTwins", "BadProgram", "NoMark", "BadText"] (fun y => y == "NoMark")) x1)).bindD fun x25 =>
(optR (isX (tcE ["BadBlocks", "BadJump", "TooLarge", "NoBlock", "NoJump", "NoRun", "NoItem", "NotInner", "OtherRoutine", "BadCount", "Uneven", "BadNumber", "BadEntry", "NotPassed", "NotEnough", "NoCeiling", "NoFloor", "NotPossible", "NotSeen", "OtherCounts", "BadCover", "BadIns", "NotTwins", "BadProgram", "NoMark", "BadText"] (fun y => y == "NoRun")) x1)).bindD fun x26 =>
gdC (x23.length + ([x24, x25, x26]).length ≤ 1000000) (
letC (x23 ++ ([x24, x25, x26])) fun x28 : (List Bool) =>
(optR (isX (tcE ["BadBlocks", "BadJump", "TooLarge", "NoBlock", "NoJump", "NoRun", "NoItem", "NotInner", "OtherRoutine", "BadCount", "Uneven", "BadNumber", "BadEntry", "NotPassed", "NotEnough", "NoCeiling", "NoFloor", "NotPossible", "NotSeen", "OtherCounts", "BadCover", "BadIns", "NotTwins", "BadProgram", "NoMark", "BadText"] (fun y => y == "NotEnough")) x1)).bindD fun x29 =>
(optR (isX (tcE ["BadBlocks", "BadJump", "TooLarge", "NoBlock", "NoJump", "NoRun", "NoItem", "NotInner", "OtherRoutine", "BadCount", "Uneven", "BadNumber", "BadEntry", "NotPassed", "NotEnough", "NoCeiling", "NoFloor", "NotPossible", "NotSeen", "OtherCounts", "BadCover", "BadIns", "NotTwins", "BadProgram", "NoMark", "BadText"] (fun y => y == "NotInner")) x1)).bindD fun x30 =>
(optR (isX (tcE ["BadBlocks", "BadJump", "TooLarge", "NoBlock", "NoJump", "NoRun", "NoItem", "NotInner", "OtherRoutine", "BadCount", "Uneven", "BadNumber", "BadEntry", "NotPassed", "NotEnough", "NoCeiling", "NoFloor", "NotPossible", "NotSeen", "OtherCounts", "BadCover", "BadIns", "NotTwins", "BadProgram", "NoMark", "BadText"] (fun y => y == "NotPassed")) x1)).bindD fun x31 =>
gdC (x28.length + ([x29, x30, x31]).length ≤ 1000000) (
letC (x28 ++ ([x29, x30, x31])) fun x33 : (List Bool) =>
(optR (isX (tcE ["BadBlocks", "BadJump", "TooLarge", "NoBlock", "NoJump", "NoRun", "NoItem", "NotInner", "OtherRoutine", "BadCount", "Uneven", "BadNumber", "BadEntry", "NotPassed", "NotEnough", "NoCeiling", "NoFloor", "NotPossible", "NotSeen", "OtherCounts", "BadCover", "BadIns", "NotTwins", "BadProgram", "NoMark", "BadText"] (fun y => y == "NotPossible")) x1)).bindD fun x34 =>
(optR (isX (tcE ["BadBlocks", "BadJump", "TooLarge", "NoBlock", "NoJump", "NoRun", "NoItem", "NotInner", "OtherRoutine", "BadCount", "Uneven", "BadNumber", "BadEntry", "NotPassed", "NotEnough", "NoCeiling", "NoFloor", "NotPossible", "NotSeen", "OtherCounts", "BadCover", "BadIns", "NotTwins", "BadProgram", "NoMark", "BadText"] (fun y => y == "NotSeen")) x1)).bindD fun x35 =>
(optR (isX (tcE ["BadBlocks", "BadJump", "TooLarge", "NoBlock", "NoJump", "NoRun", "NoItem", "NotInner", "OtherRoutine", "BadCount", "Uneven", "BadNumber", "BadEntry", "NotPassed", "NotEnough", "NoCeiling", "NoFloor", "NotPossible", "NotSeen", "OtherCounts", "BadCover", "BadIns", "NotTwins", "BadProgram", "NoMark", "BadText"] (fun y => y == "NotTwins")) x1)).bindD fun x36 =>
gdC (x33.length + ([x34, x35, x36]).length ≤ 1000000) (
letC (x33 ++ ([x34, x35, x36])) fun x38 : (List Bool) =>
(optR (isX (tcE ["BadBlocks", "BadJump", "TooLarge", "NoBlock", "NoJump", "NoRun", "NoItem", "NotInner", "OtherRoutine", "BadCount", "Uneven", "BadNumber", "BadEntry", "NotPassed", "NotEnough", "NoCeiling", "NoFloor", "NotPossible", "NotSeen", "OtherCounts", "BadCover", "BadIns", "NotTwins", "BadProgram", "NoMark", "BadText"] (fun y => y == "OtherCounts")) x1)).bindD fun x39 =>
(optR (isX (tcE ["BadBlocks", "BadJump", "TooLarge", "NoBlock", "NoJump", "NoRun", "NoItem", "NotInner", "OtherRoutine", "BadCount", "Uneven", "BadNumber", "BadEntry", "NotPassed", "NotEnough", "NoCeiling", "NoFloor", "NotPossible", "NotSeen", "OtherCounts", "BadCover", "BadIns", "NotTwins", "BadProgram", "NoMark", "BadText"] (fun y => y == "OtherRoutine")) x1)).bindD fun x40 =>
gdC (x38.length + ([x39, x40]).length ≤ 1000000) (
letC (x38 ++ ([x39, x40])) fun x42 : (List Bool) =>
(optR (isX (tcE ["BadBlocks", "BadJump", "TooLarge", "NoBlock", "NoJump", "NoRun", "NoItem", "NotInner", "OtherRoutine", "BadCount", "Uneven", "BadNumber", "BadEntry", "NotPassed", "NotEnough", "NoCeiling", "NoFloor", "NotPossible", "NotSeen", "OtherCounts", "BadCover", "BadIns", "NotTwins", "BadProgram", "NoMark", "BadText"] (fun y => y == "TooLarge")) x1)).bindD fun x43 =>
(optR (isX (tcE ["BadBlocks", "BadJump", "TooLarge", "NoBlock", "NoJump", "NoRun", "NoItem", "NotInner", "OtherRoutine", "BadCount", "Uneven", "BadNumber", "BadEntry", "NotPassed", "NotEnough", "NoCeiling", "NoFloor", "NotPossible", "NotSeen", "OtherCounts", "BadCover", "BadIns", "NotTwins", "BadProgram", "NoMark", "BadText"] (fun y => y == "Uneven")) x1)).bindD fun x44 =>
gdC (x42.length + ([x43, x44]).length ≤ 1000000) (
.ret (x42 ++ ([x43, x44])))))))))))
def F_law_kinds (x1 : D) : Res (List Bool) := (k_law_kinds x1).res fun _ => .stk
theorem F_law_kinds_ok (x1 : D) : SimF (P_law_kinds x1) (R_law_kinds x1) (m__law_kinds (P_law_kinds x1)) (F_law_kinds x1) := by
  rw [mx__law_kinds]
  exact fun_sim (Eb := fun e : Empty => nomatch e) (E := (fun _ => [])) (n := 2) (s := _) (c := k_law_kinds x1) (
  SimS.bindD fun ise2 x2 => SimS.bindD fun ise3 x3 => SimS.bindD fun ise4 x4 => SimS.letV (fun x5 h5 => SimS.conv (r := (b_law_kinds_1 [(.dat x1), (.dat ((eL D.bl) x5))])) (f_fz0 (f_seq1 (f_fz2 (nx_let (g := fun x5 => [(.dat x1), (.own ((eL D.bl) x5))]) h5 (w_asg (v_lst (v_cons (v_frz (v_isE (v_var rfl) rfl (optR_ok x2)) rfl) (v_cons (v_frz (v_isE (v_var rfl) rfl (optR_ok x3)) rfl) (v_cons (v_frz (v_isE (v_var rfl) rfl (optR_ok x4)) rfl) v_nil))) rfl rfl) rfl)) rfl))) (SimS.bindD fun ise6 x6 => SimS.bindD fun ise7 x7 => SimS.bindD fun ise8 x8 => SimS.gd fun hg9 => SimS.letV (fun x10 h10 => SimS.conv (r := (b_law_kinds_2 [(.dat x1), (.dat ((eL D.bl) x10))])) (f_seq1 (f_fz2 (nx_let (g := fun x10 => [(.dat x1), (.own ((eL D.bl) x10))]) h10 (w_asg (v_bin (v_var rfl) (v_lst (v_cons (v_frz (v_isE (v_var rfl) rfl (optR_ok x6)) rfl) (v_cons (v_frz (v_isE (v_var rfl) rfl (optR_ok x7)) rfl) (v_cons (v_frz (v_isE (v_var rfl) rfl (optR_ok x8)) rfl) v_nil))) rfl rfl) rfl rfl (u_addl hg9)) rfl)) rfl)) (SimS.bindD fun ise11 x11 => SimS.bindD fun ise12 x12 => SimS.gd fun x13 => SimS.letV (fun x14 h14 => SimS.conv (r := (b_law_kinds_3 [(.dat x1), (.dat ((eL D.bl) x14))])) (f_seq1 (f_fz2 (nx_let (g := fun x14 => [(.dat x1), (.own ((eL D.bl) x14))]) h14 (w_asg (v_bin (v_var rfl) (v_lst (v_cons (v_frz (v_isE (v_var rfl) rfl (optR_ok x11)) rfl) (v_cons (v_frz (v_isE (v_var rfl) rfl (optR_ok x12)) rfl) v_nil)) rfl rfl) rfl rfl (u_addl x13)) rfl)) rfl)) (SimS.bindD fun ise15 x15 => SimS.bindD fun ise16 x16 => SimS.gd fun x17 => SimS.letV (fun x18 h18 => SimS.conv (r := (b_law_kinds_4 [(.dat x1), (.dat ((eL D.bl) x18))])) (f_seq1 (f_fz2 (nx_let (g := fun x18 => [(.dat x1), (.own ((eL D.bl) x18))]) h18 (w_asg (v_bin (v_var rfl) (v_lst (v_cons (v_frz (v_isE (v_var rfl) rfl (optR_ok x15)) rfl) (v_cons (v_frz (v_isE (v_var rfl) rfl (optR_ok x16)) rfl) v_nil)) rfl rfl) rfl rfl (u_addl x17)) rfl)) rfl)) (SimS.bindD fun ise19 x19 => SimS.bindD fun ise20 x20 => SimS.bindD fun ise21 x21 => SimS.gd fun x22 => SimS.letV (fun x23 h23 => SimS.conv (r := (b_law_kinds_5 [(.dat x1), (.dat ((eL D.bl) x23))])) (f_seq1 (f_fz2 (nx_let (g := fun x23 => [(.dat x1), (.own ((eL D.bl) x23))]) h23 (w_asg (v_bin (v_var rfl) (v_lst (v_cons (v_frz (v_isE (v_var rfl) rfl (optR_ok x19)) rfl) (v_cons (v_frz (v_isE (v_var rfl) rfl (optR_ok x20)) rfl) (v_cons (v_frz (v_isE (v_var rfl) rfl (optR_ok x21)) rfl) v_nil))) rfl rfl) rfl rfl (u_addl x22)) rfl)) rfl)) (SimS.bindD fun ise24 x24 => SimS.bindD fun ise25 x25 => SimS.bindD fun ise26 x26 => SimS.gd fun x27 => SimS.letV (fun x28 h28 => SimS.conv (r := (b_law_kinds_6 [(.dat x1), (.dat ((eL D.bl) x28))])) (f_seq1 (f_fz2 (nx_let (g := fun x28 => [(.dat x1), (.own ((eL D.bl) x28))]) h28 (w_asg (v_bin (v_var rfl) (v_lst (v_cons (v_frz (v_isE (v_var rfl) rfl (optR_ok x24)) rfl) (v_cons (v_frz (v_isE (v_var rfl) rfl (optR_ok x25)) rfl) (v_cons (v_frz (v_isE (v_var rfl) rfl (optR_ok x26)) rfl) v_nil))) rfl rfl) rfl rfl (u_addl x27)) rfl)) rfl)) (SimS.bindD fun ise29 x29 => SimS.bindD fun ise30 x30 => SimS.bindD fun ise31 x31 => SimS.gd fun x32 => SimS.letV (fun x33 h33 => SimS.conv (r := (b_law_kinds_7 [(.dat x1), (.dat ((eL D.bl) x33))])) (f_seq1 (f_fz2 (nx_let (g := fun x33 => [(.dat x1), (.own ((eL D.bl) x33))]) h33 (w_asg (v_bin (v_var rfl) (v_lst (v_cons (v_frz (v_isE (v_var rfl) rfl (optR_ok x29)) rfl) (v_cons (v_frz (v_isE (v_var rfl) rfl (optR_ok x30)) rfl) (v_cons (v_frz (v_isE (v_var rfl) rfl (optR_ok x31)) rfl) v_nil))) rfl rfl) rfl rfl (u_addl x32)) rfl)) rfl)) (SimS.bindD fun ise34 x34 => SimS.bindD fun ise35 x35 => SimS.bindD fun ise36 x36 => SimS.gd fun x37 => SimS.letV (fun x38 h38 => SimS.conv (r := (b_law_kinds_8 [(.dat x1), (.dat ((eL D.bl) x38))])) (f_seq1 (f_fz2 (nx_let (g := fun x38 => [(.dat x1), (.own ((eL D.bl) x38))]) h38 (w_asg (v_bin (v_var rfl) (v_lst (v_cons (v_frz (v_isE (v_var rfl) rfl (optR_ok x34)) rfl) (v_cons (v_frz (v_isE (v_var rfl) rfl (optR_ok x35)) rfl) (v_cons (v_frz (v_isE (v_var rfl) rfl (optR_ok x36)) rfl) v_nil))) rfl rfl) rfl rfl (u_addl x37)) rfl)) rfl)) (SimS.bindD fun ise39 x39 => SimS.bindD fun ise40 x40 => SimS.gd fun x41 => SimS.letV (fun x42 h42 => SimS.conv (r := (b_law_kinds_9 [(.dat x1), (.dat ((eL D.bl) x42))])) (f_seq1 (f_fz2 (nx_let (g := fun x42 => [(.dat x1), (.own ((eL D.bl) x42))]) h42 (w_asg (v_bin (v_var rfl) (v_lst (v_cons (v_frz (v_isE (v_var rfl) rfl (optR_ok x39)) rfl) (v_cons (v_frz (v_isE (v_var rfl) rfl (optR_ok x40)) rfl) v_nil)) rfl rfl) rfl rfl (u_addl x41)) rfl)) rfl)) (SimS.bindD fun ise43 x43 => SimS.bindD fun ise44 x44 => SimS.gd fun x45 => SimS.retI (w_ret (v_frz (v_bin (v_var rfl) (v_lst (v_cons (v_frz (v_isE (v_var rfl) rfl (optR_ok x43)) rfl) (v_cons (v_frz (v_isE (v_var rfl) rfl (optR_ok x44)) rfl) v_nil)) rfl rfl) rfl rfl (u_addl x45)) rfl)) rfl))))))))))))))))))) (fun _ => trivial)
abbrev P_law_feed (x1 : (List Int)) (k_2 : Int) : LS := [(.dat (D.scr x1)), (.dat (D.int k_2))]
abbrev R_law_feed (x1 : (List Int)) (k_2 : Int) : (Int × Int) → Slot × LS := fun v => ((.own (eF v)), [(.dat (D.scr x1)), (.dat (D.int k_2))])
def b_law_feed_3 : SM := (retM (lstM (consA (frzM (varM 3)) (consA (frzM (varM 4)) nilA))))
def b_law_feed_2 : SM := (seqM (asgM 4 (binM modD (bltM intD (consA (binM addD (binM addD (binM mulD (varM 2) (conM (.int 6364136223846793005))) (binM mulD (conM (.int 7919)) (varM 1))) (conM (.int 1442695040888963407))) nilA)) (conM (.int 2305843009213693951)))) b_law_feed_3)
def b_law_feed_1 : SM := (seqM (fzS 3 (asgM 3 (bltM maxD (consA (conM (.int 0)) (consA (binM subD (bltM absD (consA (varM 2) nilA)) (binM powD (conM (.int 10)) (conM (.int 18)))) nilA))))) b_law_feed_2)
def k_law_feed (x1 : (List Int)) (k_2 : Int) : Ctl (Int × Int) Empty Unit :=
(iteR (decide (k_2 < (x1.length : Int))) ((optR (atI x1 k_2)).bindN fun x3 =>
.ok x3) (.ok (((61 : Int) * k_2) + (17 : Int)))).bindD fun x4 =>
letC (if ((if x4 < 0 then -x4 else x4) - ((10 : Int) ^ 18)) > (0 : Int) then ((if x4 < 0 then -x4 else x4) - ((10 : Int) ^ 18)) else (0 : Int)) fun x6 : Int =>
letC ((((x4 * (6364136223846793005 : Int)) + ((7919 : Int) * k_2)) + (1442695040888963407 : Int)) % (2305843009213693951 : Int)) fun x7 : Int =>
.ret (x6, x7)
def F_law_feed (x1 : (List Int)) (k_2 : Int) : Res (Int × Int) := (k_law_feed x1 k_2).res fun _ => .stk
theorem F_law_feed_ok (x1 : (List Int)) (k_2 : Int) : SimF (P_law_feed x1 k_2) (R_law_feed x1 k_2) (m__law_feed (P_law_feed x1 k_2)) (F_law_feed x1 k_2) := by
  rw [mx__law_feed]
  exact fun_sim (Eb := fun e : Empty => nomatch e) (E := (fun _ => [])) (n := 5) (s := _) (c := k_law_feed x1 k_2) (
  SimS.bindD fun ite4 x4 => SimS.conv (r := (b_law_feed_1 [(.dat (D.scr x1)), (.dat (D.int k_2)), (.dat (D.int ite4)), .emp, .emp])) (f_fz0 (f_fz0 (f_seq1 (f_fz2 (w_asg (v_iteR (f := fun v => (.dat (D.int v))) x4 (v_bin (v_var rfl) (v_blt (v_cons (v_var rfl) v_nil) rfl (u_lens _)) rfl rfl (u_lt _ _)) (fun hc5 => SimE.bindN fun x3 x3_1 => (SimE.okI (v_bin (v_var rfl) (v_var rfl) rfl rfl (u_ixs (optR_ok x3_1))))) (fun hc5 => (SimE.okI (v_bin (v_bin v_con (v_var rfl) rfl rfl (u_mul (Or.inl (Or.inl ⟨by decide, by decide⟩)))) v_con rfl rfl (u_add _ _))))) rfl) rfl)))) (SimS.letV (fun x6 h6 => SimS.conv (r := (b_law_feed_2 [(.dat (D.scr x1)), (.dat (D.int k_2)), (.dat (D.int ite4)), (.dat (D.int x6)), .emp])) (f_seq1 (f_fz2 (nx_let (g := fun x6 => [(.dat (D.scr x1)), (.dat (D.int k_2)), (.dat (D.int ite4)), (.dat (D.int x6)), .emp]) h6 (w_asg (v_blt (v_cons v_con (v_cons (v_bin (v_blt (v_cons (v_var rfl) v_nil) rfl (u_abs _)) (v_bin v_con v_con rfl rfl (u_pow (a := 10) (n := 18) (by decide))) rfl rfl (u_sub _ _)) v_nil)) rfl (u_max _ _)) rfl)) rfl)) (SimS.letV (fun x7 h7 => SimS.conv (r := (b_law_feed_3 [(.dat (D.scr x1)), (.dat (D.int k_2)), (.dat (D.int ite4)), (.dat (D.int x6)), (.dat (D.int x7))])) (f_seq1 (nx_let (g := fun x7 => [(.dat (D.scr x1)), (.dat (D.int k_2)), (.dat (D.int ite4)), (.dat (D.int x6)), (.dat (D.int x7))]) h7 (w_asg (v_bin (v_blt (v_cons (v_bin (v_bin (v_bin (v_var rfl) v_con rfl rfl (u_mul (Or.inl (Or.inr ⟨by decide, by decide⟩)))) (v_bin v_con (v_var rfl) rfl rfl (u_mul (Or.inl (Or.inl ⟨by decide, by decide⟩)))) rfl rfl (u_add _ _)) v_con rfl rfl (u_add _ _)) v_nil) rfl (u_int _)) v_con rfl rfl (u_mod (by decide))) rfl))) (SimS.retI (w_ret (v_lst (v_cons (v_frz (v_var rfl) rfl) (v_cons (v_frz (v_var rfl) rfl) v_nil)) rfl rfl)) rfl)))))) (fun _ => trivial)
abbrev P_law_take (x1 : (Int × Int)) (x2 : Int) : LS := [(.par (eF x1)), (.dat (D.int x2))]
abbrev R_law_take (x1 : (Int × Int)) (x2 : Int) : (Int × (Int × Int)) → Slot × LS := fun v => ((.dat (D.int v.1)), [(.par (eF v.2)), (.dat (D.int x2))])
def b_law_take_2 : SM := (seqM (setI (varM 0) (conM (.int 0)) (binM fdivD (binM ixD (varM 0) (conM (.int 0))) (varM 1))) (retM (frzM (varM 2))))
def b_law_take_3 : SM := (retM (binM modD (bltM intD (consA (binM fdivD (binM ixD (varM 0) (conM (.int 1))) (conM (.int 65536))) nilA)) (varM 1)))
def b_law_take_1 : SM := (seqM (setI (varM 0) (conM (.int 1)) (binM modD (bltM intD (consA (binM addD (binM mulD (binM ixD (varM 0) (conM (.int 1))) (conM (.int 6364136223846793005))) (conM (.int 1442695040888963407))) nilA)) (conM (.int 2305843009213693951)))) b_law_take_3)
def k_law_take (x1 : (Int × Int)) (x2 : Int) : Ctl (Int × (Int × Int)) Empty Unit :=
if (decide ((0 : Int) < x1.1)) = true then (
gdC (0 < x2) (
letC (x1.1 % x2) fun x5 : Int =>
gdC (0 < x2 ∧ x2.natAbs.log2 < 9000) (
letC ((x1.1 / x2, x1.2)) fun x7 : (Int × Int) =>
.ret (x5, x7))))
else (
letC ((x1.1, ((x1.2 * (6364136223846793005 : Int)) + (1442695040888963407 : Int)) % (2305843009213693951 : Int))) fun x8 : (Int × Int) =>
gdC (0 < x2) (
.ret ((x8.2 / (65536 : Int)) % x2, x8)))
def F_law_take (x1 : (Int × Int)) (x2 : Int) : Res (Int × (Int × Int)) := (k_law_take x1 x2).res fun _ => .stk
theorem F_law_take_ok (x1 : (Int × Int)) (x2 : Int) : SimF (P_law_take x1 x2) (R_law_take x1 x2) (m__law_take (P_law_take x1 x2)) (F_law_take x1 x2) := by
  rw [mx__law_take]
  exact fun_sim (Eb := fun e : Empty => nomatch e) (E := (fun _ => [])) (n := 3) (s := _) (c := k_law_take x1 x2) (
  SimS.ite (fun hc3 => SimS.gd fun hg4 => SimS.letV (fun x5 h5 => SimS.conv (r := (S.bind (b_law_take_2 [(.par (eF x1)), (.dat (D.int x2)), (.dat (D.int x5))]) b_law_take_1)) (f_fz0 (c_seq (f_if_t (v_bin (v_bin (v_var rfl) v_con rfl rfl u_lix0) v_con rfl rfl (u_gt _ _)) hc3 (f_seq1 (nx_let (g := fun x5 => [(.par (eF x1)), (.dat (D.int x2)), (.dat (D.int x5))]) h5 (w_asg (v_bin (v_blt (v_cons (v_bin (v_var rfl) v_con rfl rfl u_lix0) v_nil) rfl (u_int _)) (v_var rfl) rfl rfl (u_mod hg4)) rfl)))))) (SimS.gd fun hg6 => SimS.letV (fun x7 h7 => SimS.conv (r := (S.bind ((retM (frzM (varM 2))) [(.par (eF x7)), (.dat (D.int x2)), (.dat (D.int x5))]) b_law_take_1)) (d_seq (f_seq1 (nx_let (g := fun x7 => [(.par (eF x7)), (.dat (D.int x2)), (.dat (D.int x5))]) h7 (w_setI (v_frz (v_bin (v_bin (v_var rfl) v_con rfl rfl u_lix0) (v_var rfl) rfl rfl (u_fdiv hg6)) rfl) (v_var rfl) v_con rfl (chg_par rfl (u_setF0 _ _)))))) (SimS.retI (b_seq_r (w_ret (v_frz (v_var rfl) rfl))) rfl))))) (fun hc3 => SimS.conv (r := (b_law_take_1 [(.par (eF x1)), (.dat (D.int x2)), .emp])) (f_fz0 (f_seq1 (f_if_f (v_bin (v_bin (v_var rfl) v_con rfl rfl u_lix0) v_con rfl rfl (u_gt _ _)) hc3 w_nx))) (SimS.letV (fun x8 h8 => SimS.conv (r := (b_law_take_3 [(.par (eF x8)), (.dat (D.int x2)), .emp])) (f_seq1 (nx_let (g := fun x8 => [(.par (eF x8)), (.dat (D.int x2)), .emp]) h8 (w_setI (v_frz (v_bin (v_blt (v_cons (v_bin (v_bin (v_bin (v_var rfl) v_con rfl rfl u_lix1) v_con rfl rfl (u_mul (Or.inl (Or.inr ⟨by decide, by decide⟩)))) v_con rfl rfl (u_add _ _)) v_nil) rfl (u_int _)) v_con rfl rfl (u_mod (by decide))) rfl) (v_var rfl) v_con rfl (chg_par rfl (u_setF1 _ _))))) (SimS.gd fun hg9 => SimS.retI (w_ret (v_bin (v_blt (v_cons (v_bin (v_bin (v_var rfl) v_con rfl rfl u_lix1) v_con rfl rfl (u_fdiv (by decide))) v_nil) rfl (u_int _)) (v_var rfl) rfl rfl (u_mod hg9))) rfl))))) (fun _ => trivial)
abbrev P_law_numbers_right (x1 : Int) : LS := [(.dat (D.int x1))]
abbrev R_law_numbers_right (x1 : Int) : Bool → Slot × LS := fun v => ((.dat (D.bl v)), [(.dat (D.int x1))])
def b_law_numbers_right_6 : SM := (retM (binM eqD (varM 1) (binM mulD (lstM (consA (frzM (varM 0)) nilA)) (conM (.int 18)))))
def b_law_numbers_right_5 : SM := (seqM (fzS 1 (asgM 1 (binM addD (varM 1) (lstM (consA (erF ["NotPossible"] "least" (er2 true "NotPossible" "least" "greatest" (consA (conM (.int 5)) (consA (frzM (varM 0)) nilA)))) (consA (erF ["NotPossible"] "greatest" (er2 true "NotPossible" "least" "greatest" (consA (frzM (varM 0)) (consA (conM (.int 5)) nilA)))) nilA)))))) b_law_numbers_right_6)
def b_law_numbers_right_4 : SM := (seqM (fzS 1 (asgM 1 (binM addD (varM 1) (lstM (consA (erF ["NotPossible"] "least" (er2 false "NotPossible" "least" "greatest" (consA (frzM (varM 0)) (consA (conM (.int 5)) nilA)))) (consA (erF ["NotPossible"] "greatest" (er2 false "NotPossible" "least" "greatest" (consA (conM (.int 5)) (consA (frzM (varM 0)) nilA)))) nilA)))))) b_law_numbers_right_5)
def b_law_numbers_right_3 : SM := (seqM (fzS 1 (asgM 1 (binM addD (varM 1) (lstM (consA (erF ["BadProgram"] "at" (er1 "BadProgram" "at" (consA (frzM (varM 0)) nilA))) (consA (erF ["BadProgram"] "at" (er1 "BadProgram" "at" (consA (frzM (varM 0)) nilA))) nilA)))))) b_law_numbers_right_4)
def b_law_numbers_right_2 : SM := (seqM (fzS 1 (asgM 1 (binM addD (varM 1) (lstM (consA (erF ["TooLarge"] "bound" (er1 "TooLarge" "bound" (consA (frzM (varM 0)) nilA))) (consA (erF ["Uneven"] "block" (er1 "Uneven" "block" (consA (frzM (varM 0)) nilA))) (consA (erF ["Uneven"] "block" (er1 "Uneven" "block" (consA (frzM (varM 0)) nilA))) nilA))))))) b_law_numbers_right_3)
def b_law_numbers_right_1 : SM := (seqM (fzS 1 (asgM 1 (binM addD (varM 1) (lstM (consA (erF ["BadCount"] "at" (er1 "BadCount" "at" (consA (frzM (varM 0)) nilA))) (consA (erF ["BadEntry"] "at" (er1 "BadEntry" "at" (consA (frzM (varM 0)) nilA))) (consA (erF ["BadJump"] "at" (er1 "BadJump" "at" (consA (frzM (varM 0)) nilA))) (consA (erF ["BadText"] "line" (er1 "BadText" "line" (consA (frzM (varM 0)) nilA))) nilA)))))))) b_law_numbers_right_2)
def k_law_numbers_right (x1 : Int) : Ctl Bool Empty Unit :=
letC ([x1, x1, x1, x1, x1]) fun x2 : (List Int) =>
gdC (x2.length + ([x1, x1, x1, x1]).length ≤ 1000000) (
letC (x2 ++ ([x1, x1, x1, x1])) fun x4 : (List Int) =>
gdC (x4.length + ([x1, x1, x1]).length ≤ 1000000) (
letC (x4 ++ ([x1, x1, x1])) fun x6 : (List Int) =>
gdC (x6.length + ([x1, x1]).length ≤ 1000000) (
letC (x6 ++ ([x1, x1])) fun x8 : (List Int) =>
gdC (x8.length + ([x1, x1]).length ≤ 1000000) (
letC (x8 ++ ([x1, x1])) fun x10 : (List Int) =>
gdC (x10.length + ([x1, x1]).length ≤ 1000000) (
letC (x10 ++ ([x1, x1])) fun x12 : (List Int) =>
gdC (0 ≤ (18 : Int) ∧ (18 : Int) < 100000 ∧ ([x1]).length * (18 : Int).toNat ≤ 1000000) (
.ret (decide (x12 = ((List.replicate (18 : Int).toNat ([x1])).flatten)))))))))
def F_law_numbers_right (x1 : Int) : Res Bool := (k_law_numbers_right x1).res fun _ => .stk
theorem F_law_numbers_right_ok (x1 : Int) : SimF (P_law_numbers_right x1) (R_law_numbers_right x1) (m__law_numbers_right (P_law_numbers_right x1)) (F_law_numbers_right x1) := by
  rw [mx__law_numbers_right]
  exact fun_sim (Eb := fun e : Empty => nomatch e) (E := (fun _ => [])) (n := 2) (s := _) (c := k_law_numbers_right x1) (
  SimS.letV (fun x2 h2 => SimS.conv (r := (b_law_numbers_right_1 [(.dat (D.int x1)), (.dat ((eL D.int) x2))])) (f_fz0 (f_seq1 (f_fz2 (nx_let (g := fun x2 => [(.dat (D.int x1)), (.own ((eL D.int) x2))]) h2 (w_asg (v_lst (v_cons (v_erF1 (v_cons (v_frz (v_var rfl) rfl) v_nil)) (v_cons (v_erF1 (v_cons (v_frz (v_var rfl) rfl) v_nil)) (v_cons (v_erF1 (v_cons (v_frz (v_var rfl) rfl) v_nil)) (v_cons (v_erF1 (v_cons (v_frz (v_var rfl) rfl) v_nil)) (v_cons (v_erF1 (v_cons (v_frz (v_var rfl) rfl) v_nil)) v_nil))))) rfl rfl) rfl)) rfl))) (SimS.gd fun hg3 => SimS.letV (fun x4 h4 => SimS.conv (r := (b_law_numbers_right_2 [(.dat (D.int x1)), (.dat ((eL D.int) x4))])) (f_seq1 (f_fz2 (nx_let (g := fun x4 => [(.dat (D.int x1)), (.own ((eL D.int) x4))]) h4 (w_asg (v_bin (v_var rfl) (v_lst (v_cons (v_erF1 (v_cons (v_frz (v_var rfl) rfl) v_nil)) (v_cons (v_erF1 (v_cons (v_frz (v_var rfl) rfl) v_nil)) (v_cons (v_erF1 (v_cons (v_frz (v_var rfl) rfl) v_nil)) (v_cons (v_erF1 (v_cons (v_frz (v_var rfl) rfl) v_nil)) v_nil)))) rfl rfl) rfl rfl (u_addl hg3)) rfl)) rfl)) (SimS.gd fun hg5 => SimS.letV (fun x6 h6 => SimS.conv (r := (b_law_numbers_right_3 [(.dat (D.int x1)), (.dat ((eL D.int) x6))])) (f_seq1 (f_fz2 (nx_let (g := fun x6 => [(.dat (D.int x1)), (.own ((eL D.int) x6))]) h6 (w_asg (v_bin (v_var rfl) (v_lst (v_cons (v_erF1 (v_cons (v_frz (v_var rfl) rfl) v_nil)) (v_cons (v_erF1 (v_cons (v_frz (v_var rfl) rfl) v_nil)) (v_cons (v_erF1 (v_cons (v_frz (v_var rfl) rfl) v_nil)) v_nil))) rfl rfl) rfl rfl (u_addl hg5)) rfl)) rfl)) (SimS.gd fun hg7 => SimS.letV (fun x8 h8 => SimS.conv (r := (b_law_numbers_right_4 [(.dat (D.int x1)), (.dat ((eL D.int) x8))])) (f_seq1 (f_fz2 (nx_let (g := fun x8 => [(.dat (D.int x1)), (.own ((eL D.int) x8))]) h8 (w_asg (v_bin (v_var rfl) (v_lst (v_cons (v_erF1 (v_cons (v_frz (v_var rfl) rfl) v_nil)) (v_cons (v_erF1 (v_cons (v_frz (v_var rfl) rfl) v_nil)) v_nil)) rfl rfl) rfl rfl (u_addl hg7)) rfl)) rfl)) (SimS.gd fun hg9 => SimS.letV (fun x10 h10 => SimS.conv (r := (b_law_numbers_right_5 [(.dat (D.int x1)), (.dat ((eL D.int) x10))])) (f_seq1 (f_fz2 (nx_let (g := fun x10 => [(.dat (D.int x1)), (.own ((eL D.int) x10))]) h10 (w_asg (v_bin (v_var rfl) (v_lst (v_cons (v_erF2 (v_cons (v_frz (v_var rfl) rfl) (v_cons v_con v_nil)) (by rfl)) (v_cons (v_erF2 (v_cons v_con (v_cons (v_frz (v_var rfl) rfl) v_nil)) (by rfl)) v_nil)) rfl rfl) rfl rfl (u_addl hg9)) rfl)) rfl)) (SimS.gd fun x11 => SimS.letV (fun x12 h12 => SimS.conv (r := (b_law_numbers_right_6 [(.dat (D.int x1)), (.dat ((eL D.int) x12))])) (f_seq1 (f_fz2 (nx_let (g := fun x12 => [(.dat (D.int x1)), (.own ((eL D.int) x12))]) h12 (w_asg (v_bin (v_var rfl) (v_lst (v_cons (v_erF2 (v_cons v_con (v_cons (v_frz (v_var rfl) rfl) v_nil)) (by rfl)) (v_cons (v_erF2 (v_cons (v_frz (v_var rfl) rfl) (v_cons v_con v_nil)) (by rfl)) v_nil)) rfl rfl) rfl rfl (u_addl x11)) rfl)) rfl)) (SimS.gd fun x13 => SimS.retI (w_ret (v_bin (v_var rfl) (v_bin (v_lst (v_cons (v_frz (v_var rfl) rfl) v_nil) rfl rfl) v_con rfl rfl (u_mull x13)) rfl rfl (u_eq (Pl.lst Pl.int) (by decide) x12 ((List.replicate (18 : Int).toNat ([x1])).flatten)))) rfl))))))))))))) (fun _ => trivial)
abbrev P_law_pick (x1 : (Int × Int)) (x2 : (List D)) : LS := [(.par (eF x1)), (.par ((eL eD) x2))]
abbrev R_law_pick (x1 : (Int × Int)) (x2 : (List D)) : (D × (Int × Int)) → Slot × LS := fun v => ((.dat v.1), [(.par (eF v.2)), (.dat ((eL eD) x2))])
def k_law_pick (x1 : (Int × Int)) (x2 : (List D)) : Ctl (D × (Int × Int)) Empty Unit :=
(F_law_take x1 (x2.length : Int)).bindD fun x3 =>
(optR (atI x2 x3.1)).bindD fun el4 =>
.ret (el4, x3.2)
def F_law_pick (x1 : (Int × Int)) (x2 : (List D)) : Res (D × (Int × Int)) := (k_law_pick x1 x2).res fun _ => .stk
theorem F_law_pick_ok (x1 : (Int × Int)) (x2 : (List D)) : SimF (P_law_pick x1 x2) (R_law_pick x1 x2) (m__law_pick (P_law_pick x1 x2)) (F_law_pick x1 x2) := by
  rw [mx__law_pick]
  exact fun_sim (Eb := fun e : Empty => nomatch e) (E := (fun _ => [])) (n := 2) (s := _) (c := k_law_pick x1 x2) (
  SimS.bindD fun x3_1 x3 => SimS.bindD fun el4 h4 => SimS.retI (f_fz0 (w_ret (v_frz (v_bin (v_var rfl) (v_call (v_cons (v_var rfl) (v_cons (v_blt (v_cons (v_var rfl) v_nil) rfl (u_lenl _)) v_nil)) rfl (by exact nD0) rfl ((F_law_take_ok x1 (x2.length : Int)).ok x3) rfl rfl) rfl rfl (u_ixl (optR_ok h4))) rfl))) rfl) (fun _ => trivial)
abbrev P_law_others_right (x1 : D) : LS := [(.dat x1)]
abbrev R_law_others_right (x1 : D) : Bool → Slot × LS := fun v => ((.dat (D.bl v)), [(.dat x1)])
def b_law_others_right_5 : SM := (retM (binM eqD (bltM reprD (consA (varM 1) nilA)) (bltM reprD (consA (binM mulD (lstM (consA (frzM (varM 0)) nilA)) (conM (.int 14))) nilA))))
def b_law_others_right_4 : SM := (seqM (fzS 1 (asgM 1 (binM addD (varM 1) (lstM (consA (erF ["NotInner"] "block" (er1 "NotInner" "block" (consA (frzM (varM 0)) nilA))) (consA (erF ["NotPassed"] "block" (er1 "NotPassed" "block" (consA (frzM (varM 0)) nilA))) nilA)))))) b_law_others_right_5)
def b_law_others_right_3 : SM := (seqM (fzS 1 (asgM 1 (binM addD (varM 1) (lstM (consA (erF ["NoJump"] "jump" (er1 "NoJump" "jump" (consA (frzM (varM 0)) nilA))) (consA (erF ["NoMark"] "number" (er1 "NoMark" "number" (consA (frzM (varM 0)) nilA))) (consA (erF ["NoRun"] "run" (er1 "NoRun" "run" (consA (frzM (varM 0)) nilA))) nilA))))))) b_law_others_right_4)
def b_law_others_right_2 : SM := (seqM (fzS 1 (asgM 1 (binM addD (varM 1) (lstM (consA (erF ["NoBlock"] "block" (er1 "NoBlock" "block" (consA (frzM (varM 0)) nilA))) (consA (erF ["NoItem"] "item" (er1 "NoItem" "item" (consA (frzM (varM 0)) nilA))) nilA)))))) b_law_others_right_3)
def b_law_others_right_1 : SM := (seqM (fzS 1 (asgM 1 (binM addD (varM 1) (lstM (consA (erF ["NotInner"] "block" (er1 "NotInner" "block" (consA (frzM (varM 0)) nilA))) (consA (erF ["NotPassed"] "block" (er1 "NotPassed" "block" (consA (frzM (varM 0)) nilA))) nilA)))))) b_law_others_right_2)
def k_law_others_right (x1 : D) : Ctl Bool Empty Unit :=
letC ([x1, x1, x1, x1, x1]) fun x2 : (List D) =>
gdC (x2.length + ([x1, x1]).length ≤ 1000000) (
letC (x2 ++ ([x1, x1])) fun x4 : (List D) =>
gdC (x4.length + ([x1, x1]).length ≤ 1000000) (
letC (x4 ++ ([x1, x1])) fun x6 : (List D) =>
gdC (x6.length + ([x1, x1, x1]).length ≤ 1000000) (
letC (x6 ++ ([x1, x1, x1])) fun x8 : (List D) =>
gdC (x8.length + ([x1, x1]).length ≤ 1000000) (
letC (x8 ++ ([x1, x1])) fun x10 : (List D) =>
(optR (reprB ((eL eD) x10))).bindD fun x11 =>
gdC (0 ≤ (14 : Int) ∧ (14 : Int) < 100000 ∧ ([x1]).length * (14 : Int).toNat ≤ 1000000) (
(optR (reprB ((eL eD) ((List.replicate (14 : Int).toNat ([x1])).flatten)))).bindD fun x13 =>
(optR (eqP (D.str x11) (D.str x13))).bindD fun x14 =>
.ret x14)))))
def F_law_others_right (x1 : D) : Res Bool := (k_law_others_right x1).res fun _ => .stk
theorem F_law_others_right_ok (x1 : D) : SimF (P_law_others_right x1) (R_law_others_right x1) (m__law_others_right (P_law_others_right x1)) (F_law_others_right x1) := by
  rw [mx__law_others_right]
  exact fun_sim (Eb := fun e : Empty => nomatch e) (E := (fun _ => [])) (n := 2) (s := _) (c := k_law_others_right x1) (
  SimS.letV (fun x2 h2 => SimS.conv (r := (b_law_others_right_1 [(.dat x1), (.dat ((eL eD) x2))])) (f_fz0 (f_seq1 (f_fz2 (nx_let (g := fun x2 => [(.dat x1), (.own ((eL eD) x2))]) h2 (w_asg (v_lst (v_cons (v_erF1 (v_cons (v_frz (v_var rfl) rfl) v_nil)) (v_cons (v_erF1 (v_cons (v_frz (v_var rfl) rfl) v_nil)) (v_cons (v_erF1 (v_cons (v_frz (v_var rfl) rfl) v_nil)) (v_cons (v_erF1 (v_cons (v_frz (v_var rfl) rfl) v_nil)) (v_cons (v_erF1 (v_cons (v_frz (v_var rfl) rfl) v_nil)) v_nil))))) rfl rfl) rfl)) rfl))) (SimS.gd fun hg3 => SimS.letV (fun x4 h4 => SimS.conv (r := (b_law_others_right_2 [(.dat x1), (.dat ((eL eD) x4))])) (f_seq1 (f_fz2 (nx_let (g := fun x4 => [(.dat x1), (.own ((eL eD) x4))]) h4 (w_asg (v_bin (v_var rfl) (v_lst (v_cons (v_erF1 (v_cons (v_frz (v_var rfl) rfl) v_nil)) (v_cons (v_erF1 (v_cons (v_frz (v_var rfl) rfl) v_nil)) v_nil)) rfl rfl) rfl rfl (u_addl hg3)) rfl)) rfl)) (SimS.gd fun hg5 => SimS.letV (fun x6 h6 => SimS.conv (r := (b_law_others_right_3 [(.dat x1), (.dat ((eL eD) x6))])) (f_seq1 (f_fz2 (nx_let (g := fun x6 => [(.dat x1), (.own ((eL eD) x6))]) h6 (w_asg (v_bin (v_var rfl) (v_lst (v_cons (v_erF1 (v_cons (v_frz (v_var rfl) rfl) v_nil)) (v_cons (v_erF1 (v_cons (v_frz (v_var rfl) rfl) v_nil)) v_nil)) rfl rfl) rfl rfl (u_addl hg5)) rfl)) rfl)) (SimS.gd fun hg7 => SimS.letV (fun x8 h8 => SimS.conv (r := (b_law_others_right_4 [(.dat x1), (.dat ((eL eD) x8))])) (f_seq1 (f_fz2 (nx_let (g := fun x8 => [(.dat x1), (.own ((eL eD) x8))]) h8 (w_asg (v_bin (v_var rfl) (v_lst (v_cons (v_erF1 (v_cons (v_frz (v_var rfl) rfl) v_nil)) (v_cons (v_erF1 (v_cons (v_frz (v_var rfl) rfl) v_nil)) (v_cons (v_erF1 (v_cons (v_frz (v_var rfl) rfl) v_nil)) v_nil))) rfl rfl) rfl rfl (u_addl hg7)) rfl)) rfl)) (SimS.gd fun hg9 => SimS.letV (fun x10 h10 => SimS.conv (r := (b_law_others_right_5 [(.dat x1), (.dat ((eL eD) x10))])) (f_seq1 (f_fz2 (nx_let (g := fun x10 => [(.dat x1), (.own ((eL eD) x10))]) h10 (w_asg (v_bin (v_var rfl) (v_lst (v_cons (v_erF1 (v_cons (v_frz (v_var rfl) rfl) v_nil)) (v_cons (v_erF1 (v_cons (v_frz (v_var rfl) rfl) v_nil)) v_nil)) rfl rfl) rfl rfl (u_addl hg9)) rfl)) rfl)) (SimS.bindD fun x11_1 x11 => SimS.gd fun x12 => SimS.bindD fun x13_1 x13 => SimS.bindD fun x14 h14 => SimS.retI (w_ret (v_bin (v_blt (v_cons (v_var rfl) v_nil) rfl (u_reprB (optR_ok x11))) (v_blt (v_cons (v_bin (v_lst (v_cons (v_frz (v_var rfl) rfl) v_nil) rfl rfl) v_con rfl rfl (u_mull (f := eD) x12)) v_nil) rfl (u_reprB (optR_ok x13))) rfl rfl (u_eqP' (optR_ok h14)))) rfl))))))))))) (fun _ => trivial)
abbrev P_law_runs_right (x1 : (Int × Int × Int)) (x2 : (Int × Int)) : LS := [(.dat ((eP3 D.int D.int D.int) x1)), (.dat ((eP D.int D.int) x2))]
abbrev R_law_runs_right (x1 : (Int × Int × Int)) (x2 : (Int × Int)) : Bool → Slot × LS := fun v => ((.dat (D.bl v)), [(.dat ((eP3 D.int D.int D.int) x1)), (.dat ((eP D.int D.int) x2))])
def b_law_runs_right_3 : SM := (retM (binM eqD (varM 2) (binM mulD (lstM (consA (frzM (varM 1)) nilA)) (conM (.int 4)))))
def b_law_runs_right_2 : SM := (seqM (fzS 2 (asgM 2 (binM addD (varM 2) (lstM (consA (erF ["NotSeen"] "jump" (er1 "NotSeen" "jump" (consA (frzM (varM 1)) nilA))) (consA (erF ["OtherCounts"] "jump" (er1 "OtherCounts" "jump" (consA (frzM (varM 1)) nilA))) nilA)))))) b_law_runs_right_3)
def b_law_runs_right_1 : SM := (seqM (fzS 2 (asgM 2 (lstM (consA (erF ["NotSeen"] "jump" (er1 "NotSeen" "jump" (consA (frzM (varM 1)) nilA))) (consA (erF ["OtherCounts"] "jump" (er1 "OtherCounts" "jump" (consA (frzM (varM 1)) nilA))) nilA))))) b_law_runs_right_2)
def k_law_runs_right (x1 : (Int × Int × Int)) (x2 : (Int × Int)) : Ctl Bool Empty Unit :=
if ((!decide (x1 = x1)) || (!decide (x1 = x1))) = true then (
.ret false)
else (
letC ([x2, x2]) fun x4 : (List (Int × Int)) =>
gdC (x4.length + ([x2, x2]).length ≤ 1000000) (
letC (x4 ++ ([x2, x2])) fun x6 : (List (Int × Int)) =>
gdC (0 ≤ (4 : Int) ∧ (4 : Int) < 100000 ∧ ([x2]).length * (4 : Int).toNat ≤ 1000000) (
.ret (decide (x6 = ((List.replicate (4 : Int).toNat ([x2])).flatten))))))
def F_law_runs_right (x1 : (Int × Int × Int)) (x2 : (Int × Int)) : Res Bool := (k_law_runs_right x1 x2).res fun _ => .stk
theorem F_law_runs_right_ok (x1 : (Int × Int × Int)) (x2 : (Int × Int)) : SimF (P_law_runs_right x1 x2) (R_law_runs_right x1 x2) (m__law_runs_right (P_law_runs_right x1 x2)) (F_law_runs_right x1 x2) := by
  rw [mx__law_runs_right]
  exact fun_sim (Eb := fun e : Empty => nomatch e) (E := (fun _ => [])) (n := 3) (s := _) (c := k_law_runs_right x1 x2) (
  SimS.ite (fun hc3 => SimS.retI (f_fz0 (f_fz0 (f_seq_r (f_if_t (v_or (v_bin (v_erF1 (v_cons (v_frz (v_var rfl) rfl) v_nil)) (v_var rfl) rfl rfl (u_ne (Pl.pr3 Pl.int Pl.int Pl.int) (by decide) x1 x1)) (v_bin (v_erF1 (v_cons (v_frz (v_var rfl) rfl) v_nil)) (v_var rfl) rfl rfl (u_ne (Pl.pr3 Pl.int Pl.int Pl.int) (by decide) x1 x1))) hc3 (w_ret v_con))))) rfl) (fun hc3 => SimS.conv (r := (b_law_runs_right_1 [(.dat ((eP3 D.int D.int D.int) x1)), (.dat ((eP D.int D.int) x2)), .emp])) (f_fz0 (f_fz0 (f_seq1 (f_if_f (v_or (v_bin (v_erF1 (v_cons (v_frz (v_var rfl) rfl) v_nil)) (v_var rfl) rfl rfl (u_ne (Pl.pr3 Pl.int Pl.int Pl.int) (by decide) x1 x1)) (v_bin (v_erF1 (v_cons (v_frz (v_var rfl) rfl) v_nil)) (v_var rfl) rfl rfl (u_ne (Pl.pr3 Pl.int Pl.int Pl.int) (by decide) x1 x1))) hc3 w_nx)))) (SimS.letV (fun x4 h4 => SimS.conv (r := (b_law_runs_right_2 [(.dat ((eP3 D.int D.int D.int) x1)), (.dat ((eP D.int D.int) x2)), (.dat ((eL (eP D.int D.int)) x4))])) (f_seq1 (f_fz2 (nx_let (g := fun x4 => [(.dat ((eP3 D.int D.int D.int) x1)), (.dat ((eP D.int D.int) x2)), (.own ((eL (eP D.int D.int)) x4))]) h4 (w_asg (v_lst (v_cons (v_erF1 (v_cons (v_frz (v_var rfl) rfl) v_nil)) (v_cons (v_erF1 (v_cons (v_frz (v_var rfl) rfl) v_nil)) v_nil)) rfl rfl) rfl)) rfl)) (SimS.gd fun hg5 => SimS.letV (fun x6 h6 => SimS.conv (r := (b_law_runs_right_3 [(.dat ((eP3 D.int D.int D.int) x1)), (.dat ((eP D.int D.int) x2)), (.dat ((eL (eP D.int D.int)) x6))])) (f_seq1 (f_fz2 (nx_let (g := fun x6 => [(.dat ((eP3 D.int D.int D.int) x1)), (.dat ((eP D.int D.int) x2)), (.own ((eL (eP D.int D.int)) x6))]) h6 (w_asg (v_bin (v_var rfl) (v_lst (v_cons (v_erF1 (v_cons (v_frz (v_var rfl) rfl) v_nil)) (v_cons (v_erF1 (v_cons (v_frz (v_var rfl) rfl) v_nil)) v_nil)) rfl rfl) rfl rfl (u_addl hg5)) rfl)) rfl)) (SimS.gd fun hg7 => SimS.retI (w_ret (v_bin (v_var rfl) (v_bin (v_lst (v_cons (v_frz (v_var rfl) rfl) v_nil) rfl rfl) v_con rfl rfl (u_mull hg7)) rfl rfl (u_eq (Pl.lst (Pl.pr Pl.int Pl.int)) (by decide) x6 ((List.replicate (4 : Int).toNat ([x2])).flatten)))) rfl))))))) (fun _ => trivial)
abbrev P_law (x1 : (List Int)) : LS := [(.dat (D.scr x1))]
abbrev R_law (x1 : (List Int)) : Bool → Slot × LS := fun v => ((.dat (D.bl v)), [(.dat (D.scr x1))])
def b_law_13 : SM := (ifS (notM (callN 2 m__law_runs_right (consA (tupM (consA (conM (.int 0)) (consA (frzM (binM addD (varM 6) (conM (.int 1)))) (consA (conM (.int 30)) nilA)))) (consA (tupM (consA (frzM (varM 6)) (consA (frzM (binM addD (binM addD (varM 6) (conM (.int 1))) (callN 2 m__law_take (consA (varM 5) (consA (conM (.int 9)) nilA))))) nilA))) nilA)))) (retM (conM (.bl false))) nxM)
def b_law_12 : SM := (seqM (fzS 6 (asgM 6 (callN 2 m__law_take (consA (varM 5) (consA (conM (.int 20)) nilA))))) b_law_13)
def b_law_8 : SM := (ifS (orM (notM (isE (tcE ["BadBlocks", "BadJump", "TooLarge", "NoBlock", "NoJump", "NoRun", "NoItem", "NotInner", "OtherRoutine", "BadCount", "Uneven", "BadNumber", "BadEntry", "NotPassed", "NotEnough", "NoCeiling", "NoFloor", "NotPossible", "NotSeen", "OtherCounts", "BadCover", "BadIns", "NotTwins", "BadProgram", "NoMark", "BadText"] (fun _ => true)) (varM 3))) (notM (isE (tcE ["BadBlocks", "BadJump", "TooLarge", "NoBlock", "NoJump", "NoRun", "NoItem", "NotInner", "OtherRoutine", "BadCount", "Uneven", "BadNumber", "BadEntry", "NotPassed", "NotEnough", "NoCeiling", "NoFloor", "NotPossible", "NotSeen", "OtherCounts", "BadCover", "BadIns", "NotTwins", "BadProgram", "NoMark", "BadText"] (fun _ => true)) (varM 3)))) (retM (conM (.bl false))) nxM)
def b_law_11 : SM := (seqM (ifS (notM (callN 1 m__law_others_right (consA (callN 2 m__law_pick (consA (varM 5) (consA (lstM (consA (conM (.int 7)) (consA (conM .non) (consA (conM (.str "x")) (consA (tupM (consA (conM (.int 0)) (consA (conM (.int 1)) nilA))) (consA (tupM nilA) (consA (frzM (lstM (consA (conM (.int 0)) (consA (conM (.int 1)) nilA)))) (consA (conM (.bl true)) (consA (binM powD (conM (.int 10)) (conM (.int 30))) nilA))))))))) nilA))) nilA))) (retM (conM (.bl false))) nxM) b_law_12)
def b_law_7 : SM := (fgaS [2, 3] (seqM (ifS (binM neD (callN 1 m__law_kinds (consA (varM 3) nilA)) (lcM [7] (rng1 (consA (conM (.int 26)) nilA)) (tgN 7) (conM (.bl true)) (binM eqD (varM 7) (varM 2)))) (retM (conM (.bl false))) nxM) b_law_8))
def b_law_10 : SM := (seqM (ifS (notM (callN 1 m__law_numbers_right (consA (callN 2 m__law_take (consA (varM 5) (consA (conM (.int 99)) nilA))) nilA))) (retM (conM (.bl false))) nxM) b_law_11)
def b_law_9 : SM := (fgaS [4, 5, 6] (seqM (asgM 5 (callN 2 m__law_feed (consA (varM 0) (consA (varM 4) nilA)))) b_law_10))
def b_law_6 : SM := (seqM (fgtS [4, 5, 6] (forM (rng1 (consA (bltM maxD (consA (conM (.int 1)) (consA (bltM minD (consA (conM (.int 2)) (consA (bltM lenD (consA (varM 0) nilA)) nilA))) nilA))) nilA)) (tgN 4) b_law_9)) (retM (notM (conM (.bl false)))))
def b_law_5 : SM := (seqM (fgtS [2, 3] (forM (enumM (consA (varM 1) nilA)) (tgT [(tgN 2), (tgN 3)]) b_law_7)) b_law_6)
def b_law_4 : SM := (seqM (fzS 1 (asgM 1 (binM addD (varM 1) (lstM (consA (frzM (er1 "OtherCounts" "jump" (consA (tupM (consA (conM (.int 0)) (consA (conM (.int 1)) nilA))) nilA))) (consA (frzM (er0 "OtherRoutine")) (consA (frzM (er1 "TooLarge" "bound" (consA (conM (.int 40)) nilA))) (consA (frzM (er1 "Uneven" "block" (consA (conM (.int 1)) nilA))) nilA)))))))) b_law_5)
def b_law_3 : SM := (seqM (fzS 1 (asgM 1 (binM addD (varM 1) (lstM (consA (frzM (er1 "NotEnough" "run" (consA (tupM (consA (conM (.int 0)) (consA (conM (.int 1)) nilA))) nilA))) (consA (frzM (er1 "NotInner" "block" (consA (conM (.int 0)) nilA))) (consA (frzM (er1 "NotPassed" "block" (consA (conM (.int 1)) nilA))) (consA (frzM (er2 false "NotPossible" "least" "greatest" (consA (conM (.int 0)) (consA (conM (.int 1)) nilA)))) (consA (frzM (er1 "NotSeen" "jump" (consA (tupM (consA (conM (.int 0)) (consA (conM (.int 1)) nilA))) nilA))) (consA (frzM (er0 "NotTwins")) nilA)))))))))) b_law_4)
def b_law_2 : SM := (seqM (fzS 1 (asgM 1 (binM addD (varM 1) (lstM (consA (frzM (er1 "NoBlock" "block" (consA (conM (.int 9)) nilA))) (consA (frzM (er0 "NoCeiling")) (consA (frzM (er0 "NoFloor")) (consA (frzM (er1 "NoItem" "item" (consA (conM (.int 9)) nilA))) (consA (frzM (er1 "NoJump" "jump" (consA (tupM (consA (conM (.int 0)) (consA (conM (.int 1)) nilA))) nilA))) (consA (frzM (er1 "NoMark" "number" (consA (conM (.int 1)) nilA))) (consA (frzM (er1 "NoRun" "run" (consA (tupM (consA (conM (.int 0)) (consA (conM (.int 1)) nilA))) nilA))) nilA))))))))))) b_law_3)
def b_law_1 : SM := (seqM (fzS 1 (asgM 1 (binM addD (varM 1) (lstM (consA (frzM (er1 "BadProgram" "at" (consA (conM (.int 0)) nilA))) (consA (frzM (er1 "BadText" "line" (consA (conM (.int 1)) nilA))) nilA)))))) b_law_2)
def k_law_b1 (x11 : (Int × D)) : Ctl Bool Unit Unit :=
(F_law_kinds x11.2).bindD fun x12 =>
gdC (inR (26 : Int) = true) (
gdC ((rangeZ 0 (26 : Int).toNat).length ≤ 1000000) (
if (!decide (x12 = ((rangeZ 0 (26 : Int).toNat).map (fun x14 => decide (x14 = x11.1))))) = true then (
.ret false)
else (
(optR (isX (tcE ["BadBlocks", "BadJump", "TooLarge", "NoBlock", "NoJump", "NoRun", "NoItem", "NotInner", "OtherRoutine", "BadCount", "Uneven", "BadNumber", "BadEntry", "NotPassed", "NotEnough", "NoCeiling", "NoFloor", "NotPossible", "NotSeen", "OtherCounts", "BadCover", "BadIns", "NotTwins", "BadProgram", "NoMark", "BadText"] (fun _ => true)) x11.2)).bindD fun x17 =>
(orR (!x17) ((optR (isX (tcE ["BadBlocks", "BadJump", "TooLarge", "NoBlock", "NoJump", "NoRun", "NoItem", "NotInner", "OtherRoutine", "BadCount", "Uneven", "BadNumber", "BadEntry", "NotPassed", "NotEnough", "NoCeiling", "NoFloor", "NotPossible", "NotSeen", "OtherCounts", "BadCover", "BadIns", "NotTwins", "BadProgram", "NoMark", "BadText"] (fun _ => true)) x11.2)).bindN fun x18 =>
.ok (!x18))).bindD fun x19 =>
if x19 = true then (
.ret false)
else (
.nx ()))))
theorem k_law_b1_ok (x1 : (List Int)) (x10 : (List D)) (x11 : (Int × D)) : SimS (⟨(P_law x1), (R_law x1), (fun s_ : Unit => [(.dat (D.scr x1)), (.dat ((eL eD) x10)), .emp, .emp, .emp, .emp, .emp, .emp])⟩ : Fr Bool Unit) (fun s_ : Unit => [(.dat (D.scr x1)), (.dat ((eL eD) x10)), .emp, .emp, .emp, .emp, .emp, .emp]) (b_law_7 [(.dat (D.scr x1)), (.dat ((eL eD) x10)), (.dat (D.int x11.1)), (.dat x11.2), .emp, .emp, .emp, .emp]) (k_law_b1 x11) :=
  SimS.bindD fun x12_1 x12 => SimS.gd fun x13 => SimS.gd fun x15 => SimS.ite (fun x16 => SimS.retI (f_fga_r (f_seq_r (f_if_t (v_bin (v_call (v_cons (v_var rfl) v_nil) rfl (by exact nD1) rfl ((F_law_kinds_ok x11.2).ok x12) rfl rfl) (v_lc (v_srcC (v_rng1 (v_cons v_con v_nil) x13) (rangeD_Z _ _)) rfl (lc_map2 (e := D.int) (f := D.bl) (v := fun x14 => decide (x14 = x11.1)) rfl (fun _ => rfl) (fun _ => rfl) (fun x14 => ⟨_, (v_bin (v_var rfl) (v_var rfl) rfl rfl (u_eq Pl.int (by decide) x14 x11.1)), rfl⟩) x15)) rfl rfl (u_ne (Pl.lst Pl.bl) (by decide) x12_1 ((rangeZ 0 (26 : Int).toNat).map (fun x14 => decide (x14 = x11.1))))) x16 (w_ret v_con)))) rfl) (fun x16 => SimS.conv (r := (wipeS [2, 3] (b_law_8 [(.dat (D.scr x1)), (.dat ((eL eD) x10)), (.dat (D.int x11.1)), (.dat x11.2), .emp, .emp, .emp, .emp]))) (c_fga (f_seq1 (f_if_f (v_bin (v_call (v_cons (v_var rfl) v_nil) rfl (by exact nD1) rfl ((F_law_kinds_ok x11.2).ok x12) rfl rfl) (v_lc (v_srcC (v_rng1 (v_cons v_con v_nil) x13) (rangeD_Z _ _)) rfl (lc_map2 (e := D.int) (f := D.bl) (v := fun x14 => decide (x14 = x11.1)) rfl (fun _ => rfl) (fun _ => rfl) (fun x14 => ⟨_, (v_bin (v_var rfl) (v_var rfl) rfl rfl (u_eq Pl.int (by decide) x14 x11.1)), rfl⟩) x15)) rfl rfl (u_ne (Pl.lst Pl.bl) (by decide) x12_1 ((rangeZ 0 (26 : Int).toNat).map (fun x14 => decide (x14 = x11.1))))) x16 w_nx))) (SimS.bindD fun ise17 x17 => SimS.bindD fun x19 hb_19 => SimS.ite (fun x21 => SimS.retI (b_fga_r (f_if_t (v_orR hb_19 (v_not (v_isE (v_var rfl) rfl (optR_ok x17))) (fun x20 => SimE.bindN fun ise18 x18 => (SimE.okI (v_not (v_isE (v_var rfl) rfl (optR_ok x18)))))) x21 (w_ret v_con))) rfl) (fun x21 => SimS.nxI (b_fgq (f_if_f (v_orR hb_19 (v_not (v_isE (v_var rfl) rfl (optR_ok x17))) (fun x20 => SimE.bindN fun ise18 x18 => (SimE.okI (v_not (v_isE (v_var rfl) rfl (optR_ok x18)))))) x21 w_nx) rfl) rfl)))
def k_law_b2 (x1 : (List Int)) (x24 : Int) : Ctl Bool Unit Unit :=
(F_law_feed x1 x24).bindD fun x25 =>
(F_law_take x25 (99 : Int)).bindD fun x26 =>
(F_law_numbers_right x26.1).bindD fun x27 =>
if (!x27) = true then (
.ret false)
else (
(F_law_pick x26.2 ([(D.int (7 : Int)), ((fun _ : Unit => D.non) ()), (D.str ("x" : Str)), ((eP D.int D.int) ((0 : Int), (1 : Int))), ((eQ eD) ([])), ((eL D.int) ([(0 : Int), (1 : Int)])), (D.bl true), (D.int ((10 : Int) ^ 30))])).bindD fun x29 =>
(F_law_others_right x29.1).bindD fun x30 =>
if (!x30) = true then (
.ret false)
else (
(F_law_take x29.2 (20 : Int)).bindD fun x32 =>
(F_law_take x32.2 (9 : Int)).bindD fun x33 =>
(F_law_runs_right ((0 : Int), x32.1 + (1 : Int), (30 : Int)) (x32.1, (x32.1 + (1 : Int)) + x33.1)).bindD fun x34 =>
if (!x34) = true then (
.ret false)
else (
.nx ())))
theorem k_law_b2_ok (x1 : (List Int)) (x10 : (List D)) (x24 : Int) : SimS (⟨(P_law x1), (R_law x1), (fun s_ : Unit => [(.dat (D.scr x1)), (.dat ((eL eD) x10)), .emp, .emp, .emp, .emp, .emp, .emp])⟩ : Fr Bool Unit) (fun s_ : Unit => [(.dat (D.scr x1)), (.dat ((eL eD) x10)), .emp, .emp, .emp, .emp, .emp, .emp]) (b_law_9 [(.dat (D.scr x1)), (.dat ((eL eD) x10)), .emp, .emp, (.dat (D.int x24)), .emp, .emp, .emp]) (k_law_b2 x1 x24) :=
  SimS.bindD fun x25 x25_1 => SimS.conv (r := (wipeS [4, 5, 6] (b_law_10 [(.dat (D.scr x1)), (.dat ((eL eD) x10)), .emp, .emp, (.dat (D.int x24)), (.own (eF x25)), .emp, .emp]))) (c_fga (f_seq1 (w_asg (v_call (v_cons (v_var rfl) (v_cons (v_var rfl) v_nil)) rfl (by exact nD1) rfl ((F_law_feed_ok x1 x24).ok x25_1) rfl rfl) rfl))) (SimS.bindD fun x26_1 x26 => SimS.bindD fun x27_1 x27 => SimS.ite (fun x28 => SimS.retI (b_fga_r (f_seq_r (f_if_t (v_not (v_call (v_cons (v_call (v_cons (v_var rfl) (v_cons v_con v_nil)) rfl (by exact nD2) rfl ((F_law_take_ok x25 (99 : Int)).ok x26) rfl rfl) v_nil) rfl (by exact nD1) rfl ((F_law_numbers_right_ok x26_1.1).ok x27) rfl rfl)) x28 (w_ret v_con)))) rfl) (fun x28 => SimS.conv (r := (wipeS [4, 5, 6] (b_law_11 [(.dat (D.scr x1)), (.dat ((eL eD) x10)), .emp, .emp, (.dat (D.int x24)), (.own (eF x26_1.2)), .emp, .emp]))) (d_fga (f_seq1 (f_if_f (v_not (v_call (v_cons (v_call (v_cons (v_var rfl) (v_cons v_con v_nil)) rfl (by exact nD2) rfl ((F_law_take_ok x25 (99 : Int)).ok x26) rfl rfl) v_nil) rfl (by exact nD1) rfl ((F_law_numbers_right_ok x26_1.1).ok x27) rfl rfl)) x28 w_nx))) (SimS.bindD fun x29_1 x29 => SimS.bindD fun x30_1 x30 => SimS.ite (fun x31 => SimS.retI (b_fga_r (f_seq_r (f_if_t (v_not (v_call (v_cons (v_call (v_cons (v_var rfl) (v_cons (v_lst (v_cons v_con (v_cons v_con (v_cons v_con (v_cons (v_tup (v_cons v_con (v_cons v_con v_nil)) rfl rfl) (v_cons (v_tup v_nil rfl rfl) (v_cons (v_frz (v_lst (v_cons v_con (v_cons v_con v_nil)) rfl rfl) rfl) (v_cons v_con (v_cons (v_bin v_con v_con rfl rfl (u_pow (a := 10) (n := 30) (by decide))) v_nil)))))))) rfl rfl) v_nil)) rfl (by exact nD2) rfl ((F_law_pick_ok x26_1.2 ([(D.int (7 : Int)), ((fun _ : Unit => D.non) ()), (D.str ("x" : Str)), ((eP D.int D.int) ((0 : Int), (1 : Int))), ((eQ eD) ([])), ((eL D.int) ([(0 : Int), (1 : Int)])), (D.bl true), (D.int ((10 : Int) ^ 30))])).ok x29) rfl rfl) v_nil) rfl (by exact nD1) rfl ((F_law_others_right_ok x29_1.1).ok x30) rfl rfl)) x31 (w_ret v_con)))) rfl) (fun x31 => SimS.conv (r := (wipeS [4, 5, 6] (b_law_12 [(.dat (D.scr x1)), (.dat ((eL eD) x10)), .emp, .emp, (.dat (D.int x24)), (.own (eF x29_1.2)), .emp, .emp]))) (d_fga (f_seq1 (f_if_f (v_not (v_call (v_cons (v_call (v_cons (v_var rfl) (v_cons (v_lst (v_cons v_con (v_cons v_con (v_cons v_con (v_cons (v_tup (v_cons v_con (v_cons v_con v_nil)) rfl rfl) (v_cons (v_tup v_nil rfl rfl) (v_cons (v_frz (v_lst (v_cons v_con (v_cons v_con v_nil)) rfl rfl) rfl) (v_cons v_con (v_cons (v_bin v_con v_con rfl rfl (u_pow (a := 10) (n := 30) (by decide))) v_nil)))))))) rfl rfl) v_nil)) rfl (by exact nD2) rfl ((F_law_pick_ok x26_1.2 ([(D.int (7 : Int)), ((fun _ : Unit => D.non) ()), (D.str ("x" : Str)), ((eP D.int D.int) ((0 : Int), (1 : Int))), ((eQ eD) ([])), ((eL D.int) ([(0 : Int), (1 : Int)])), (D.bl true), (D.int ((10 : Int) ^ 30))])).ok x29) rfl rfl) v_nil) rfl (by exact nD1) rfl ((F_law_others_right_ok x29_1.1).ok x30) rfl rfl)) x31 w_nx))) (SimS.bindD fun x32_1 x32 => SimS.conv (r := (wipeS [4, 5, 6] (b_law_13 [(.dat (D.scr x1)), (.dat ((eL eD) x10)), .emp, .emp, (.dat (D.int x24)), (.own (eF x32_1.2)), (.dat (D.int x32_1.1)), .emp]))) (d_fga (f_seq1 (f_fz2 (w_asg (v_call (v_cons (v_var rfl) (v_cons v_con v_nil)) rfl (by exact nD2) rfl ((F_law_take_ok x29_1.2 (20 : Int)).ok x32) rfl rfl) rfl) rfl))) (SimS.bindD fun x33_1 x33 => SimS.bindD fun x34_1 x34 => SimS.ite (fun x35 => SimS.retI (b_fga_r (f_if_t (v_not (v_call (v_cons (v_tup (v_cons v_con (v_cons (v_frz (v_bin (v_var rfl) v_con rfl rfl (u_add _ _)) rfl) (v_cons v_con v_nil))) rfl rfl) (v_cons (v_tup (v_cons (v_frz (v_var rfl) rfl) (v_cons (v_frz (v_bin (v_bin (v_var rfl) v_con rfl rfl (u_add _ _)) (v_call (v_cons (v_var rfl) (v_cons v_con v_nil)) rfl (by exact nD2) rfl ((F_law_take_ok x32_1.2 (9 : Int)).ok x33) rfl rfl) rfl rfl (u_add _ _)) rfl) v_nil)) rfl rfl) v_nil)) rfl (by exact nD1) rfl ((F_law_runs_right_ok ((0 : Int), x32_1.1 + (1 : Int), (30 : Int)) (x32_1.1, (x32_1.1 + (1 : Int)) + x33_1.1)).ok x34) rfl rfl)) x35 (w_ret v_con))) rfl) (fun x35 => SimS.nxI (b_fgq (f_if_f (v_not (v_call (v_cons (v_tup (v_cons v_con (v_cons (v_frz (v_bin (v_var rfl) v_con rfl rfl (u_add _ _)) rfl) (v_cons v_con v_nil))) rfl rfl) (v_cons (v_tup (v_cons (v_frz (v_var rfl) rfl) (v_cons (v_frz (v_bin (v_bin (v_var rfl) v_con rfl rfl (u_add _ _)) (v_call (v_cons (v_var rfl) (v_cons v_con v_nil)) rfl (by exact nD2) rfl ((F_law_take_ok x32_1.2 (9 : Int)).ok x33) rfl rfl) rfl rfl (u_add _ _)) rfl) v_nil)) rfl rfl) v_nil)) rfl (by exact nD1) rfl ((F_law_runs_right_ok ((0 : Int), x32_1.1 + (1 : Int), (30 : Int)) (x32_1.1, (x32_1.1 + (1 : Int)) + x33_1.1)).ok x34) rfl rfl)) x35 w_nx) rfl) rfl)))))))
def k_law (x1 : (List Int)) : Ctl Bool Empty Unit :=
letK ([((.exc ("BadBlocks" : Str) []) : D), ((.exc ("BadCount" : Str) [(("at" : Str), (D.int (0 : Int)))]) : D), ((.exc ("BadCover" : Str) []) : D), ((.exc ("BadEntry" : Str) [(("at" : Str), (D.int (0 : Int)))]) : D), ((.exc ("BadIns" : Str) []) : D), ((.exc ("BadJump" : Str) [(("at" : Str), (D.int (0 : Int)))]) : D), ((.exc ("BadNumber" : Str) []) : D)]) fun x2 : (List D) =>
gdC (x2.length + ([((.exc ("BadProgram" : Str) [(("at" : Str), (D.int (0 : Int)))]) : D), ((.exc ("BadText" : Str) [(("line" : Str), (D.int (1 : Int)))]) : D)]).length ≤ 1000000) (
letC (x2 ++ ([((.exc ("BadProgram" : Str) [(("at" : Str), (D.int (0 : Int)))]) : D), ((.exc ("BadText" : Str) [(("line" : Str), (D.int (1 : Int)))]) : D)])) fun x4 : (List D) =>
gdC (x4.length + ([((.exc ("NoBlock" : Str) [(("block" : Str), (D.int (9 : Int)))]) : D), ((.exc ("NoCeiling" : Str) []) : D), ((.exc ("NoFloor" : Str) []) : D), ((.exc ("NoItem" : Str) [(("item" : Str), (D.int (9 : Int)))]) : D), ((.exc ("NoJump" : Str) [(("jump" : Str), ((eP D.int D.int) ((0 : Int), (1 : Int))))]) : D), ((.exc ("NoMark" : Str) [(("number" : Str), (D.int (1 : Int)))]) : D), ((.exc ("NoRun" : Str) [(("run" : Str), ((eP D.int D.int) ((0 : Int), (1 : Int))))]) : D)]).length ≤ 1000000) (
letC (x4 ++ ([((.exc ("NoBlock" : Str) [(("block" : Str), (D.int (9 : Int)))]) : D), ((.exc ("NoCeiling" : Str) []) : D), ((.exc ("NoFloor" : Str) []) : D), ((.exc ("NoItem" : Str) [(("item" : Str), (D.int (9 : Int)))]) : D), ((.exc ("NoJump" : Str) [(("jump" : Str), ((eP D.int D.int) ((0 : Int), (1 : Int))))]) : D), ((.exc ("NoMark" : Str) [(("number" : Str), (D.int (1 : Int)))]) : D), ((.exc ("NoRun" : Str) [(("run" : Str), ((eP D.int D.int) ((0 : Int), (1 : Int))))]) : D)])) fun x6 : (List D) =>
gdC (x6.length + ([((.exc ("NotEnough" : Str) [(("run" : Str), ((eP D.int D.int) ((0 : Int), (1 : Int))))]) : D), ((.exc ("NotInner" : Str) [(("block" : Str), (D.int (0 : Int)))]) : D), ((.exc ("NotPassed" : Str) [(("block" : Str), (D.int (1 : Int)))]) : D), ((.exc ("NotPossible" : Str) [(("greatest" : Str), (D.int (1 : Int))), (("least" : Str), (D.int (0 : Int)))]) : D), ((.exc ("NotSeen" : Str) [(("jump" : Str), ((eP D.int D.int) ((0 : Int), (1 : Int))))]) : D), ((.exc ("NotTwins" : Str) []) : D)]).length ≤ 1000000) (
letC (x6 ++ ([((.exc ("NotEnough" : Str) [(("run" : Str), ((eP D.int D.int) ((0 : Int), (1 : Int))))]) : D), ((.exc ("NotInner" : Str) [(("block" : Str), (D.int (0 : Int)))]) : D), ((.exc ("NotPassed" : Str) [(("block" : Str), (D.int (1 : Int)))]) : D), ((.exc ("NotPossible" : Str) [(("greatest" : Str), (D.int (1 : Int))), (("least" : Str), (D.int (0 : Int)))]) : D), ((.exc ("NotSeen" : Str) [(("jump" : Str), ((eP D.int D.int) ((0 : Int), (1 : Int))))]) : D), ((.exc ("NotTwins" : Str) []) : D)])) fun x8 : (List D) =>
gdC (x8.length + ([((.exc ("OtherCounts" : Str) [(("jump" : Str), ((eP D.int D.int) ((0 : Int), (1 : Int))))]) : D), ((.exc ("OtherRoutine" : Str) []) : D), ((.exc ("TooLarge" : Str) [(("bound" : Str), (D.int (40 : Int)))]) : D), ((.exc ("Uneven" : Str) [(("block" : Str), (D.int (1 : Int)))]) : D)]).length ≤ 1000000) (
letC (x8 ++ ([((.exc ("OtherCounts" : Str) [(("jump" : Str), ((eP D.int D.int) ((0 : Int), (1 : Int))))]) : D), ((.exc ("OtherRoutine" : Str) []) : D), ((.exc ("TooLarge" : Str) [(("bound" : Str), (D.int (40 : Int)))]) : D), ((.exc ("Uneven" : Str) [(("block" : Str), (D.int (1 : Int)))]) : D)])) fun x10 : (List D) =>
(forT (fun x11 s_ => k_law_b1 x11) (enumT x10) ()).thn fun x22 =>
gdC (inR (if (if (x1.length : Int) < (2 : Int) then (x1.length : Int) else (2 : Int)) > (1 : Int) then (if (x1.length : Int) < (2 : Int) then (x1.length : Int) else (2 : Int)) else (1 : Int)) = true) (
(forT (fun x24 s_ => k_law_b2 x1 x24) (rangeZ 0 (if (if (x1.length : Int) < (2 : Int) then (x1.length : Int) else (2 : Int)) > (1 : Int) then (if (x1.length : Int) < (2 : Int) then (x1.length : Int) else (2 : Int)) else (1 : Int)).toNat) ()).thn fun x36 =>
.ret (!false))))))
def F_law (x1 : (List Int)) : Res Bool := (k_law x1).res fun _ => .stk
theorem F_law_ok (x1 : (List Int)) : SimF (P_law x1) (R_law x1) (m_law (P_law x1)) (F_law x1) := by
  rw [mx_law]
  exact fun_sim (Eb := fun e : Empty => nomatch e) (E := (fun _ => [])) (n := 8) (s := _) (c := k_law x1) (
  SimS.letK (fun x2 h2 => SimS.conv (r := (b_law_1 [(.dat (D.scr x1)), (.dat ((eL eD) x2)), .emp, .emp, .emp, .emp, .emp, .emp])) (f_fz0 (f_seq1 (f_fz2 (nx_let (g := fun x2 => [(.dat (D.scr x1)), (.own ((eL eD) x2)), .emp, .emp, .emp, .emp, .emp, .emp]) h2 (w_asg (v_lst (v_cons (v_frz v_er0 rfl) (v_cons (v_frz (v_er1 (v_cons v_con v_nil)) rfl) (v_cons (v_frz v_er0 rfl) (v_cons (v_frz (v_er1 (v_cons v_con v_nil)) rfl) (v_cons (v_frz v_er0 rfl) (v_cons (v_frz (v_er1 (v_cons v_con v_nil)) rfl) (v_cons (v_frz v_er0 rfl) v_nil))))))) rfl rfl) rfl)) rfl))) (SimS.gd fun hg3 => SimS.letV (fun x4 h4 => SimS.conv (r := (b_law_2 [(.dat (D.scr x1)), (.dat ((eL eD) x4)), .emp, .emp, .emp, .emp, .emp, .emp])) (f_seq1 (f_fz2 (nx_let (g := fun x4 => [(.dat (D.scr x1)), (.own ((eL eD) x4)), .emp, .emp, .emp, .emp, .emp, .emp]) h4 (w_asg (v_bin (v_var rfl) (v_lst (v_cons (v_frz (v_er1 (v_cons v_con v_nil)) rfl) (v_cons (v_frz (v_er1 (v_cons v_con v_nil)) rfl) v_nil)) rfl rfl) rfl rfl (u_addl hg3)) rfl)) rfl)) (SimS.gd fun hg5 => SimS.letV (fun x6 h6 => SimS.conv (r := (b_law_3 [(.dat (D.scr x1)), (.dat ((eL eD) x6)), .emp, .emp, .emp, .emp, .emp, .emp])) (f_seq1 (f_fz2 (nx_let (g := fun x6 => [(.dat (D.scr x1)), (.own ((eL eD) x6)), .emp, .emp, .emp, .emp, .emp, .emp]) h6 (w_asg (v_bin (v_var rfl) (v_lst (v_cons (v_frz (v_er1 (v_cons v_con v_nil)) rfl) (v_cons (v_frz v_er0 rfl) (v_cons (v_frz v_er0 rfl) (v_cons (v_frz (v_er1 (v_cons v_con v_nil)) rfl) (v_cons (v_frz (v_er1 (v_cons (v_tup (v_cons v_con (v_cons v_con v_nil)) rfl rfl) v_nil)) rfl) (v_cons (v_frz (v_er1 (v_cons v_con v_nil)) rfl) (v_cons (v_frz (v_er1 (v_cons (v_tup (v_cons v_con (v_cons v_con v_nil)) rfl rfl) v_nil)) rfl) v_nil))))))) rfl rfl) rfl rfl (u_addl hg5)) rfl)) rfl)) (SimS.gd fun hg7 => SimS.letV (fun x8 h8 => SimS.conv (r := (b_law_4 [(.dat (D.scr x1)), (.dat ((eL eD) x8)), .emp, .emp, .emp, .emp, .emp, .emp])) (f_seq1 (f_fz2 (nx_let (g := fun x8 => [(.dat (D.scr x1)), (.own ((eL eD) x8)), .emp, .emp, .emp, .emp, .emp, .emp]) h8 (w_asg (v_bin (v_var rfl) (v_lst (v_cons (v_frz (v_er1 (v_cons (v_tup (v_cons v_con (v_cons v_con v_nil)) rfl rfl) v_nil)) rfl) (v_cons (v_frz (v_er1 (v_cons v_con v_nil)) rfl) (v_cons (v_frz (v_er1 (v_cons v_con v_nil)) rfl) (v_cons (v_frz (v_er2 (v_cons v_con (v_cons v_con v_nil))) rfl) (v_cons (v_frz (v_er1 (v_cons (v_tup (v_cons v_con (v_cons v_con v_nil)) rfl rfl) v_nil)) rfl) (v_cons (v_frz v_er0 rfl) v_nil)))))) rfl rfl) rfl rfl (u_addl hg7)) rfl)) rfl)) (SimS.gd fun hg9 => SimS.letV (fun x10 h10 => SimS.conv (r := (b_law_5 [(.dat (D.scr x1)), (.dat ((eL eD) x10)), .emp, .emp, .emp, .emp, .emp, .emp])) (f_seq1 (f_fz2 (nx_let (g := fun x10 => [(.dat (D.scr x1)), (.own ((eL eD) x10)), .emp, .emp, .emp, .emp, .emp, .emp]) h10 (w_asg (v_bin (v_var rfl) (v_lst (v_cons (v_frz (v_er1 (v_cons (v_tup (v_cons v_con (v_cons v_con v_nil)) rfl rfl) v_nil)) rfl) (v_cons (v_frz v_er0 rfl) (v_cons (v_frz (v_er1 (v_cons v_con v_nil)) rfl) (v_cons (v_frz (v_er1 (v_cons v_con v_nil)) rfl) v_nil)))) rfl rfl) rfl rfl (u_addl hg9)) rfl)) rfl)) (SimS.conv (c_seq (f_fgtq rfl (f_for (v_srcC (v_enF (v_cons (v_var rfl) v_nil) rfl rfl) (enumD_T _)) rfl))) (SimS.loopK (K := fun r => (S.bind r b_law_6)) (fun _ _ => rfl) (fun _ _ => rfl) (SimS.forL2 (E := (fun s_ : Unit => [(.dat (D.scr x1)), (.dat ((eL eD) x10)), .emp, .emp, .emp, .emp, .emp, .emp])) (e := (eP D.int eD)) (fun _ => rfl) (fun x11 s_ => ⟨_, rfl, (k_law_b1_ok x1 x10 x11)⟩)) (fun x22 => SimS.conv (r := (b_law_6 [(.dat (D.scr x1)), (.dat ((eL eD) x10)), .emp, .emp, .emp, .emp, .emp, .emp])) (b_seq1 (rfl)) (SimS.gd fun x23 => SimS.conv (c_seq (f_fgtq rfl (f_for (v_srcC (v_rng1 (v_cons (v_blt (v_cons v_con (v_cons (v_blt (v_cons v_con (v_cons (v_blt (v_cons (v_var rfl) v_nil) rfl (u_lens _)) v_nil)) rfl (u_min _ _)) v_nil)) rfl (u_max _ _)) v_nil) x23) (rangeD_Z _ _)) rfl))) (SimS.loopK (K := fun r => (S.bind r (retM (notM (conM (.bl false)))))) (fun _ _ => rfl) (fun _ _ => rfl) (SimS.forL2 (E := (fun s_ : Unit => [(.dat (D.scr x1)), (.dat ((eL eD) x10)), .emp, .emp, .emp, .emp, .emp, .emp])) (e := D.int) (fun _ => rfl) (fun x24 s_ => ⟨_, rfl, (k_law_b2_ok x1 x10 x24)⟩)) (fun x36 => SimS.conv (r := ((retM (notM (conM (.bl false)))) [(.dat (D.scr x1)), (.dat ((eL eD) x10)), .emp, .emp, .emp, .emp, .emp, .emp])) (b_seq1 (rfl)) (SimS.retI (w_ret (v_not v_con)) rfl))))))))))))))))) (fun _ => trivial)
section
variable {α β γ δ ρ σ τ κ : Type}
theorem bindD_of {r : Res α} {f : α → Ctl ρ β σ} {a : α} {c : Ctl ρ β σ} (h : r = .ok a) (h2 : f a = c) : r.bindD f = c := by rw [h, ← h2]; rfl
theorem bindN_of {r : Res α} {f : α → Res γ} {a : α} {c : Res γ} (h : r = .ok a) (h2 : f a = c) : r.bindN f = c := by rw [h, ← h2]; rfl
theorem optR_of {o : Option α} {a : α} (h : o = some a) : optR o = .ok a := by rw [h]; rfl
theorem gdC_of {p : Prop} [Decidable p] {r c : Ctl ρ β σ} (h : p) (h2 : r = c) : gdC p r = c := by rw [gdC_pos h, h2]
theorem letC_of {v : α} {f : α → Ctl ρ β σ} {c : Ctl ρ β σ} (h : f v = c) : letC v f = c := h
theorem ifT_of {p : Prop} [Decidable p] {a b c : α} (h : p) (h2 : a = c) : (if p then a else b) = c := by rw [if_pos h, h2]
theorem ifF_of {p : Prop} [Decidable p] {a b c : α} (h : ¬ p) (h2 : b = c) : (if p then a else b) = c := by rw [if_neg h, h2]
theorem thn_of {c : Ctl ρ Empty σ} {f : σ → Ctl ρ β τ} {s : σ} {d : Ctl ρ β τ} (h : c = .nx s) (h2 : f s = d) : c.thn f = d := by rw [h, ← h2]; rfl
theorem res_of {h : σ → Res ρ} {c : Ctl ρ β σ} {v : ρ} (e : c = .ret v) : c.res h = .ok v := by rw [e]; rfl
def Gives (r : Res α) (P : α → Prop) : Prop := ∃ a, r = .ok a ∧ P a
theorem Gives.mono {r : Res α} {P Q : α → Prop} (h : Gives r P) (q : ∀ a, P a → Q a) : Gives r Q := h.imp fun a ⟨e, p⟩ => ⟨e, q a p⟩
theorem forT_inv {b : α → σ → Ctl ρ σ σ} (P : List α → σ → Prop) : ∀ (xs pre : List α) (s : σ), P pre s → (∀ pre x s, (∃ post, pre0 ++ xs0 = pre ++ x :: post) → P pre s → ∃ s', b x s = .nx s' ∧ P (pre ++ [x]) s') → pre0 ++ xs0 = pre ++ xs → ∃ s', (forT b xs s : Ctl ρ β σ) = .nx s' ∧ P (pre ++ xs) s'
  | [], pre, s, h, _, _ => ⟨s, rfl, by simpa using h⟩
  | x :: xs, pre, s, h, hb, e => by
    obtain ⟨s', e1, p1⟩ := hb pre x s ⟨xs, e⟩ h
    unfold forT
    rw [e1]
    obtain ⟨s2, e2, p2⟩ := forT_inv P xs (pre ++ [x]) s' p1 hb (by simpa using e)
    exact ⟨s2, e2, by simpa using p2⟩
theorem forT_pre {b : α → σ → Ctl ρ σ σ} (P : List α → σ → Prop) {xs : List α} {s : σ} (h : P [] s) (hb : ∀ pre x post s, xs = pre ++ x :: post → P pre s → ∃ s', b x s = .nx s' ∧ P (pre ++ [x]) s') : ∃ s', (forT b xs s : Ctl ρ β σ) = .nx s' ∧ P xs s' := by
  have := forT_inv (b := b) (β := β) (pre0 := []) (xs0 := xs) P xs [] s h (fun pre x s ⟨post, e⟩ p => hb pre x post s e p) rfl
  simpa using this
theorem forT_nx {b : α → σ → Ctl ρ σ σ} (P : σ → Prop) {xs : List α} {s : σ} (h : P s) (hb : ∀ x ∈ xs, ∀ s, P s → ∃ s', b x s = .nx s' ∧ P s') : ∃ s', (forT b xs s : Ctl ρ β σ) = .nx s' ∧ P s' :=
  forT_pre (fun _ => P) h fun pre x post s e p => hb x (by rw [e]; simp) s p
theorem forT_nxu {b : α → Unit → Ctl ρ Unit Unit} {xs : List α} (hb : ∀ x ∈ xs, b x () = .nx ()) : (forT b xs () : Ctl ρ β Unit) = .nx () := by
  obtain ⟨s, e, _⟩ := forT_nx (b := b) (β := β) (fun _ => True) (xs := xs) (s := ()) trivial fun x hx s _ => ⟨(), hb x hx, trivial⟩
  exact e
theorem mem_rangeZ {lo i : Int} {n : Nat} : i ∈ rangeZ lo n ↔ lo ≤ i ∧ i < lo + n := by
  simp only [rangeZ, List.mem_map, List.mem_range]
  constructor
  · rintro ⟨j, h, rfl⟩; omega
  · intro h; exact ⟨(i - lo).toNat, by omega, by omega⟩
theorem ixN_nat {n i : Nat} (h : i < n) : ixN n (i : Int) = some i := by
  unfold ixN
  rw [if_pos (by omega), if_pos (by omega)]
  simp
theorem atI_nat {xs : List α} {i : Nat} {a : α} (h : xs[i]? = some a) : atI xs (i : Int) = some a := by
  have hl := (List.getElem?_eq_some_iff.mp h).1
  unfold atI
  rw [ixN_nat hl]
  exact h
theorem atI_at {xs : List α} {i : Int} (h0 : 0 ≤ i) : atI xs i = xs[i.toNat]? := by
  unfold atI ixN
  rw [if_pos h0]
  split
  · rfl
  · rw [List.getElem?_eq_none (by omega)]; rfl
theorem atI_lt {xs : List α} {i : Int} (h0 : 0 ≤ i) (h1 : i < xs.length) : ∃ a, atI xs i = some a ∧ a ∈ xs ∧ xs[i.toNat]? = some a := by
  have hi : i.toNat < xs.length := by omega
  refine ⟨xs[i.toNat], ?_, List.getElem_mem hi, List.getElem?_eq_getElem hi⟩
  rw [atI_at h0]
  exact List.getElem?_eq_getElem hi
end
section
variable {α β γ κ : Type}
section
variable [DecidableEq κ]
def keysG (es : List (κ × α)) : List κ := es.map (·.1)
@[simp] theorem getG_nil {k : κ} : getG ([] : List (κ × α)) k = none := rfl
def valG (es : List (κ × Int)) (k : κ) : Int := (getG es k).getD 0
def linG (w : κ → Int) (es : List (κ × Int)) : Int := (es.map fun p => w p.1 * p.2).sum
def addG (es : List (κ × Int)) (p : κ × Int) : List (κ × Int) := putG es p.1 (valG es p.1 + p.2)
end
end
abbrev JP := Int × Int
abbrev EN := List Int × Int
def jumpsOf (r : List Int) : List JP := r.zip r.tail
@[simp] theorem jumpsOf_nil : jumpsOf [] = [] := rfl
@[simp] theorem jumpsOf_one {a : Int} : jumpsOf [a] = [] := rfl
@[simp] theorem jumpsOf_cons {a b : Int} {r : List Int} : jumpsOf (a :: b :: r) = (a, b) :: jumpsOf (b :: r) := rfl
theorem jumpsOf_asc : ∀ {r : List Int}, r.Pairwise (· < ·) → ∀ j ∈ jumpsOf r, j.1 ∈ r ∧ j.2 ∈ r ∧ j.1 < j.2
  | [], _, _, h => by cases h
  | [a], _, _, h => by cases h
  | a :: b :: r, hp, j, h => by
    obtain ⟨h1, h2⟩ := List.pairwise_cons.mp hp
    rw [jumpsOf_cons] at h
    rcases List.mem_cons.mp h with rfl | z
    · exact ⟨by simp, by simp, h1 b (by simp)⟩
    · obtain ⟨q1, q2, q3⟩ := jumpsOf_asc h2 j z
      exact ⟨List.mem_cons_of_mem _ q1, List.mem_cons_of_mem _ q2, q3⟩
structure RunOk (n : Int) (r : List Int) : Prop where
  asc : r.Pairwise (· < ·)
  hd : r.head? = some 0
  lt : r.getLast? = some (n - 1)
  two : 2 ≤ n
theorem asc_bounds : ∀ {r : List Int} {a z : Int}, r.Pairwise (· < ·) → r.head? = some a → r.getLast? = some z → ∀ x ∈ r, a ≤ x ∧ x ≤ z
  | [], _, _, _, h, _ => by cases h
  | [a], a', z, _, h, h2 => by
    have h2 : a = z := by simpa using h2
    have h : a = a' := by simpa using h
    intro x hx
    simp at hx
    omega
  | a :: b :: r, a', z, hp, h, h2 => by
    cases h
    obtain ⟨q1, q2⟩ := List.pairwise_cons.mp hp
    have ih := asc_bounds (r := b :: r) (a := b) (z := z) q2 rfl (by rw [← h2, List.getLast?_cons_cons])
    intro x hx
    have hb := q1 b (by simp)
    rcases List.mem_cons.mp hx with rfl | m
    · have := ih b (by simp); omega
    · have := ih x m; omega
theorem RunOk.bd {n : Int} {r : List Int} (h : RunOk n r) : ∀ x ∈ r, 0 ≤ x ∧ x ≤ n - 1 := asc_bounds h.asc h.hd h.lt
theorem RunOk.jumps {n : Int} {r : List Int} (h : RunOk n r) {j : JP} (hj : j ∈ jumpsOf r) : 0 ≤ j.1 ∧ j.1 < j.2 ∧ j.2 ≤ n - 1 := by
  obtain ⟨a, b, c⟩ := jumpsOf_asc h.asc j hj
  exact ⟨(h.bd _ a).1, c, (h.bd _ b).2⟩
theorem RunOk.len {n : Int} {r : List Int} (h : RunOk n r) : 2 ≤ r.length := by
  match r, h.hd, h.lt with
  | [a], h1, h2 =>
    cases h1
    simp at h2
    have := h.two
    omega
  | _ :: _ :: _, _, _ => simp
def pairsOf (es : List EN) : List (JP × Int) := es.flatMap fun e => (jumpsOf e.1).map fun j => (j, e.2)
def sumsOf (es : List EN) : List (JP × Int) := (pairsOf es).foldl addG []
def balW (b : Int) (j : JP) : Int := (if j.2 = b then 1 else 0) - (if j.1 = b then 1 else 0)
theorem feed_ok (ns : List Int) {k : Int} (h : 0 ≤ k) : ∃ f, F_law_feed ns k = .ok f := by
  by_cases hk : k < (ns.length : Int)
  · obtain ⟨c, e, _⟩ := atI_lt h hk
    refine ⟨_, res_of (bindD_of (a := c) ?_ rfl)⟩
    unfold iteR
    rw [if_pos (by simpa using hk)]
    exact bindN_of (optR_of e) rfl
  · refine ⟨_, res_of (bindD_of (a := (61 : Int) * k + 17) ?_ rfl)⟩
    unfold iteR
    rw [if_neg (by simpa using hk)]
theorem take_ok (f : Int × Int) {m : Int} (h : 0 < m) (h2 : m ≤ 1000000) : ∃ v f', F_law_take f m = .ok (v, f') ∧ 0 ≤ v ∧ v < m := by
  have hl : m.natAbs.log2 < 9000 := by
    have : m.natAbs < 2 ^ 9000 := Nat.lt_of_le_of_lt (show m.natAbs ≤ 1000000 by omega) (by
      have : (2 : Nat) ^ 20 ≤ 2 ^ 9000 := Nat.pow_le_pow_right (by decide) (by decide)
      exact Nat.lt_of_lt_of_le (by decide : 1000000 < 2 ^ 20) this)
    by_cases z : m.natAbs = 0
    · rw [z]; decide
    · exact (Nat.log2_lt z).mpr this
  by_cases hp : 0 < f.1
  · refine ⟨f.1 % m, (f.1 / m, f.2), res_of (ifT_of (by simpa using hp) (gdC_of h (gdC_of ⟨h, hl⟩ rfl))), Int.emod_nonneg _ (by omega), Int.emod_lt_of_pos _ h⟩
  · refine ⟨_, _, res_of (ifF_of (by simpa using hp) (letC_of (gdC_of h rfl))), Int.emod_nonneg _ (by omega), Int.emod_lt_of_pos _ h⟩
theorem pickC_ok {α : Type} (f : Int × Int) {xs : List α} (h : xs ≠ []) (h2 : xs.length ≤ 1000000) : ∃ x f', ((F_law_take f (xs.length : Int)).bindD fun t => (optR (atI xs t.1)).bindD fun e => .ret (e, t.2) : Ctl (α × (Int × Int)) Empty Unit) = .ret (x, f') ∧ x ∈ xs := by
  have hl := List.length_pos_iff.mpr h
  obtain ⟨v, f', e, h0, h1⟩ := take_ok f (m := xs.length) (by omega) (by omega)
  obtain ⟨x, e2, hx, _⟩ := atI_lt h0 h1
  exact ⟨x, f', bindD_of e (bindD_of (optR_of e2) rfl), hx⟩
theorem pick_ok (f : Int × Int) {xs : List D} (h : xs ≠ []) (h2 : xs.length ≤ 1000000) : ∃ x f', F_law_pick f xs = .ok (x, f') ∧ x ∈ xs := by
  obtain ⟨x, f', e, hx⟩ := pickC_ok f h h2
  exact ⟨x, f', res_of e, hx⟩
end VM
set_option maxRecDepth 1000000
set_option maxHeartbeats 4000000
namespace VM
open PySem PySem.Spec L2
theorem numbers_ok (n : Int) : F_law_numbers_right n = .ok true := by
  refine res_of (letC_of (gdC_of (by simp) (letC_of (gdC_of (by simp) (letC_of (gdC_of (by simp) (letC_of (gdC_of (by simp) (letC_of (gdC_of (by simp) (letC_of (gdC_of (by simp) ?_))))))))))))
  exact congrArg Ctl.ret (decide_eq_true rfl)
theorem runs_ok (r : Int × Int × Int) (j : Int × Int) : F_law_runs_right r j = .ok true := by
  refine res_of (ifF_of (by simp) (letC_of (gdC_of (by simp) (letC_of (gdC_of (by simp) ?_)))))
  exact congrArg Ctl.ret (decide_eq_true rfl)
def odds : List D := [(D.int (7 : Int)), ((fun _ : Unit => D.non) ()), (D.str ("x" : Str)), ((eP D.int D.int) ((0 : Int), (1 : Int))), ((eQ eD) ([])), ((eL D.int) ([(0 : Int), (1 : Int)])), (D.bl true), (D.int ((10 : Int) ^ 30))]
theorem shown_odd {d : D} (g : (D.lst (List.replicate 14 d)).gd = true) (w : (D.lst (List.replicate 14 d)).wt ≤ 1000000) (p : (D.lst (List.replicate 14 d)).dp ≤ 50) : F_law_others_right d = .ok true := by
  have e := reprB_gd g w p
  have e1 : reprB (eL eD (List.replicate 14 d)) = some (shD (.lst (List.replicate 14 d))) := by
    rw [show eL eD (List.replicate 14 d) = .lst (List.replicate 14 d) from congrArg D.lst (List.map_id _)]; exact e
  have e2 : eqP (.str (shD (.lst (List.replicate 14 d)))) (.str (shD (.lst (List.replicate 14 d)))) = some true := by
    have sh : SeqAt.shaped (PyData.str (shD (.lst (List.replicate 14 d)))) = true := by
      have z := shD_ok g
      generalize shD (D.lst (List.replicate 14 d)) = q at z ⊢
      simp [SeqAt.shaped, PyData.canLay0, PyData.depth, z]
    show (match toPy (D.str (shD (.lst (List.replicate 14 d)))), toPy (D.str (shD (.lst (List.replicate 14 d)))) with
      | some a, some b => if SeqAt.shaped a = true ∧ SeqAt.shaped b = true then some (PyData.eqv a b) else none
      | _, _ => none) = _
    have e : toPy (D.str (shD (.lst (List.replicate 14 d)))) = some (.str (shD (.lst (List.replicate 14 d)))) := rfl
    rw [e]
    simp only [sh, and_self, if_true]
    simp [PyData.eqv]
  refine res_of (letC_of (gdC_of (by simp) (letC_of (gdC_of (by simp) (letC_of (gdC_of (by simp) (letC_of (gdC_of (by simp) (letC_of ?_)))))))))
  refine bindD_of (optR_of e1) (gdC_of (by simp) (bindD_of (optR_of ?_) (bindD_of (optR_of e2) rfl)))
  exact e1
theorem others_ok : ∀ d ∈ odds, F_law_others_right d = .ok true := by
  intro d hd
  simp only [odds, List.mem_cons, List.not_mem_nil, or_false] at hd
  rcases hd with rfl | rfl | rfl | rfl | rfl | rfl | rfl | rfl <;> exact shown_odd (by decide +kernel) (by decide +kernel) (by decide +kernel)
theorem cell_nx (ns : List Int) {k : Int} (hk : 0 ≤ k) : k_law_b2 ns k = .nx () := by
  obtain ⟨f, e1⟩ := feed_ok ns hk
  obtain ⟨v, f2, e2, _⟩ := take_ok f (m := 99) (by decide) (by decide)
  obtain ⟨d, f3, e3, hd⟩ := pick_ok f2 (xs := odds) (by decide) (by decide)
  obtain ⟨a, f4, e4, _⟩ := take_ok f3 (m := 20) (by decide) (by decide)
  obtain ⟨b, f5, e5, _⟩ := take_ok f4 (m := 9) (by decide) (by decide)
  exact bindD_of e1 (bindD_of e2 (bindD_of (numbers_ok v) (ifF_of (by decide) (bindD_of e3 (bindD_of (others_ok d hd) (ifF_of (by decide) (bindD_of e4 (bindD_of e5 (bindD_of (runs_ok _ _) (ifF_of (by decide) rfl))))))))))
theorem law_true (ns : List Int) (h : ns.length ≤ 63) : F_law ns = .ok true := by
  have e : ∀ m : Int, 0 ≤ m → (forT (fun k_5 (s_ : Unit) => k_law_b2 ns k_5) (rangeZ 0 m.toNat) () : Ctl Bool Empty Unit) = .nx () := fun m hm => forT_nxu fun k hk => cell_nx ns (by have := mem_rangeZ.mp hk; omega)
  refine res_of (letK_of ?_)
  refine gdC_of (by simp) (letC_of (gdC_of (by simp) (letC_of (gdC_of (by simp) (letC_of (gdC_of (by simp) (letC_of ?_)))))))
  refine thn_of (s := ()) (by kernel_rfl) ?_
  refine gdC_of (inR_of ?_ ?_) (thn_of (e _ ?_) rfl)
  · split <;> split at * <;> omega
  · split <;> split at * <;> omega
  · split <;> split at * <;> omega
theorem pure_k73 : ∀ ns : List Int, ns.length ≤ 63 → ∃ ps, VM.m_law [.dat (.scr ns)] = .ok (.dat (.bl true)) ps := fun ns h => ⟨_, (F_law_ok ns).ok (law_true ns h)⟩
end VM
open PySem PySem.W PyProof.Rows
theorem PySem.Challenge.cw_runledger_k73_errors_and_fields_holds : PySem.Challenge.rw_runledger_k73_errors_and_fields.Holds := by
  exact VM.holds_of VM.pure_k73
