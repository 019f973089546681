import PyProof.Rows.All
import Wide.All
import OpenK.AllK
import Wide.FinOn
import HandS.Base
import HandS.Call
import HandS.List
import HandS.Comp
import HandS.Words
import HandS.WordsExc
import HandS.Lambda
import HandS.Iter
import HandS.Zip
import HandS.Text
import HandS.Flow
import HandS.Style
import HandS.IsInst
import HandS.TupAny
import HandS.TupMul
import HandS.TupLe
import HandS.Deep
import HandS.Wide
import HandS.OwnEq
import HandS.Dict
import HandS.WordsDict
import KE.GoesEnum
import HandS.RaiseMore
import HandS.ExcInit
import HandS.ExcIs
import HandS.ExcField
import HandS.FStrTup
import HandS.EndTab
import HandS.NestedK
import HandS.Gcd
import HandS.SetFor
import HandS.Strs
import KE.DatumOrd
import HandS.ExcValue
import HandS.Star
import HandS.TupSets
import KE.LtData
import HandS.Conv
import HandS.Codes
import PyProof.StrOps2
import HandS.SortRule
import PyProof.LongRange
import PySem.Challenge.RW_partsfound_k15_whole_runs_in_order
set_option Elab.async false
section
set_option Elab.async false
set_option linter.all false
set_option maxRecDepth 100000
set_option maxHeartbeats 4000000
/-! DL0: data in place of the heap. Shared things (Sh), what a value stands for (Rp), steps (Stp), slots (Slots), the judgements. -/
namespace DL
open PySem PySem.Spec PyProof.Rows L2

/-! ### the weakest readings -/
def We (X : Cx) (e : Expr) : TE := fun σ H Q => ∀ pins s, Inv X pins σ H s → wpAny (model X.prog X.w) X.A (eval e X.env) (EP X pins σ Q) X.xe s
def Wt (X : Cx) (e : Expr) : TT := fun σ H Q => ∀ pins s, Inv X pins σ H s → wpAny (model X.prog X.w) X.A (isTrue e X.env (eval e X.env)) (TP X pins σ Q) X.xe s
def Ww (X : Cx) (e : Expr) : TT := fun σ H Q => ∀ whole pins s, Inv X pins σ H s → wpAny (model X.prog X.w) X.A (isTrue e X.env whole) (TP X pins σ Q) X.xe s
def Wa (X : Cx) (es : List Expr) : TA := fun σ H Q => ∀ pos pins s, Inv X pins σ H s → wpAny (model X.prog X.w) X.A (spliced (backTo pos (starEach es X.env))) (AP X pins σ Q) X.xe s
def Ws (X : Cx) (st : Stmt) : TS := fun D σ H => ∀ pins s, Inv X pins σ H s → wpAny (model X.prog X.w) X.A (exec st X.env) (SP X pins D) X.xe s
def Wss (X : Cx) (st : List Stmt) : TS := fun D σ H => ∀ pins s, Inv X pins σ H s → wpAny (model X.prog X.w) X.A (execs st X.env) (SP X pins D) X.xe s
def Wg (X : Cx) (tg : Expr) : TG := fun v σ H Q => ∀ pins s u, Inv X pins σ H s → RelV v u → wpAny (model X.prog X.w) X.A (assign tg X.env u) (fun _ s' => ∃ σ' H', Inv X pins σ' H' s' ∧ Q σ' H') X.xe s
section
variable {X : Cx} {e : Expr} {es : List Expr} {st : Stmt} {sts : List Stmt} {σ : L2.St} {H : Hp}
theorem pe_we : PE X e (We X e) := ⟨fun pins s σ H Q I h => h pins s I⟩
theorem pt_we : PT X e (Wt X e) := ⟨fun pins s σ H Q I h => h pins s I⟩
theorem pw_we : PW X e (Ww X e) := ⟨fun wh pins s σ H Q I h => h wh pins s I⟩
theorem pa_we : PA X es (Wa X es) := ⟨fun pos pins s σ H Q I h => h pos pins s I⟩
theorem ps_we : PS X st (Ws X st) := ⟨fun pins s σ H D I h => h pins s I⟩
theorem pss_we : PSs X sts (Wss X sts) := ⟨fun pins s σ H D I h => h pins s I⟩
theorem pg_we {tg : Expr} : PG X tg (Wg X tg) := ⟨fun pins s σ H v u Q I r h => h pins s u I r⟩
theorem We.of {t : TE} {Q : VK} (h : PE X e t) (q : t σ H Q) : We X e σ H Q := fun pins s I => h.run pins s σ H Q I q
theorem Wt.of {t : TT} {Q} (h : PT X e t) (q : t σ H Q) : Wt X e σ H Q := fun pins s I => h.run pins s σ H Q I q
theorem Ww.of {t : TT} {Q} (h : PW X e t) (q : t σ H Q) : Ww X e σ H Q := fun wh pins s I => h.run wh pins s σ H Q I q
theorem Wa.of {t : TA} {Q} (h : PA X es t) (q : t σ H Q) : Wa X es σ H Q := fun pos pins s I => h.run pos pins s σ H Q I q
theorem Ws.of {t : TS} {D} (h : PS X st t) (q : t D σ H) : Ws X st D σ H := fun pins s I => h.run pins s σ H D I q
theorem Wss.of {t : TS} {D} (h : PSs X sts t) (q : t D σ H) : Wss X sts D σ H := fun pins s I => h.run pins s σ H D I q
theorem We.mono {Q Q' : VK} (h : We X e σ H Q) (k : ∀ v H', Q v H' → Q' v H') : We X e σ H Q' := fun pins s I =>
  thn (h pins s I) fun _ _ ⟨v, H', I', r, q⟩ => ⟨v, H', I', r, k v H' q⟩
theorem Wt.mono {Q Q' : Bool → Hp → Prop} (h : Wt X e σ H Q) (k : ∀ v H', Q v H' → Q' v H') : Wt X e σ H Q' := fun pins s I =>
  thn (h pins s I) fun _ _ ⟨H', I', q⟩ => ⟨H', I', k _ H' q⟩
theorem Ww.mono {Q Q' : Bool → Hp → Prop} (h : Ww X e σ H Q) (k : ∀ v H', Q v H' → Q' v H') : Ww X e σ H Q' := fun wh pins s I =>
  thn (h wh pins s I) fun _ _ ⟨H', I', q⟩ => ⟨H', I', k _ H' q⟩
theorem Wa.mono {Q Q' : List V → Hp → Prop} (h : Wa X es σ H Q) (k : ∀ v H', Q v H' → Q' v H') : Wa X es σ H Q' := fun pos pins s I =>
  thn (h pos pins s I) fun _ _ ⟨v, H', I', r, q⟩ => ⟨v, H', I', r, k v H' q⟩
end

/-! ### data -/
inductive D where
  | non | bl (b : Bool) | int (i : Int) | str (x : Str) | ty (n : String)
  | tup (l : List D) | lst (l : List D)
  /-- a frozen instance of the class at C: its attributes by name -/
  | ins (C : Addr) (ns : List Str) (l : List D)
  | adr (a : Addr)
  | scr (ns : List Int)
  /-- a frozen list, its address told -/
  | lsA (a : Addr) (l : List D)
  | pen
  /-- what a dict may keep: keys, tables of ints -/
  | kep (sp : List (Str × List (List Int)))
  /-- the caught exception at a: its class, its dict at dd -/
  | xc (a C dd : Addr) (ns : List Str) (l : List D)
  /-- frozen dicts: keys, values -/
  | dK (ks : List Key) (l : List D)
  | dT (ks : List (List Key)) (l : List D)
  /-- frozen dicts that are locked: one may go through their keys -/
  | fK (ks : List Key) (l : List D)
  | fT (ks : List (List Key)) (l : List D)
  /-- of one's own: a list, an instance, dicts -/
  | ol (l : List D)
  | oi (a C : Addr) (ns : List Str) (l : List D)
  | oK (a : Addr) (ks : List Key) (l : List D)
  | oT (a : Addr) (ks : List (List Key)) (l : List D)

/-- a thing of one's own, let go -/
def D.frz : D → D
  | .ol l => .lst l
  | .oi _ C ns l => .ins C ns l
  | .oK _ ks l => .dK ks l
  | .oT _ ks l => .dT ks l
  | d => d
def D.own : D → Bool
  | .ol _ => true | .oi _ _ _ _ => true | .oK _ _ _ => true | .oT _ _ _ => true
  | _ => false

/-- what is shared, and what stays true of it -/
abbrev Sh := Addr → Option (HO → Prop)
def fz (o : HO) : HO → Prop := fun u => u = o
theorem fz_inj {o u : HO} (h : fz o = fz u) : o = u := by
  have := congrFun h o
  have e : (o = o) = (o = u) := this
  exact e.mp rfl
/-- the pen: its list of cells at l (frozen), its four numbers -/
def penO (l : Addr) (a d c f : Int) : HO := .dK [(.inr "cells", .ref l), (.inr "at", .int a), (.inr "digits", .int d), (.inr "count", .int c), (.inr "fold", .int f)]
def penP (l : Addr) : HO → Prop := fun u => ∃ a d c f : Int, 0 ≤ a ∧ 0 ≤ d ∧ 0 ≤ f ∧ u = penO l a d c f

def Le (Z Z' : Sh) : Prop := ∀ a φ, Z a = some φ → Z' a = some φ
theorem Le.refl (Z : Sh) : Le Z Z := fun _ _ h => h
theorem Le.trans {Z Z1 Z2 : Sh} (a : Le Z Z1) (b : Le Z1 Z2) : Le Z Z2 := fun x φ h => b x φ (a x φ h)
/-! what is kept in a dict that fills up: its keys, each with the table that it must be -/
abbrev KS := List (Str × List (List Int))
def encR (r : List Int) : List V := r.map V.int ++ [.non]
def encK : KS → List V
  | [] => []
  | (x, rs) :: sp => .str x :: (rs.flatMap encR ++ .bl true :: encK sp)
theorem encR_inj : ∀ {r r' : List Int} {a b : List V}, encR r ++ a = encR r' ++ b → r = r' ∧ a = b
  | [], [], _, _, h => ⟨rfl, (List.cons.inj h).2⟩
  | [], _ :: _, _, _, h => by cases (List.cons.inj h).1
  | _ :: _, [], _, _, h => by cases (List.cons.inj h).1
  | x :: r, y :: r', a, b, h => by
    have h1 := (List.cons.inj h).1
    obtain ⟨e, e2⟩ := encR_inj (List.cons.inj h).2
    cases h1; subst e; exact ⟨rfl, e2⟩
theorem encT_inj : ∀ {rs rs' : List (List Int)} {a b : List V}, rs.flatMap encR ++ V.bl true :: a = rs'.flatMap encR ++ V.bl true :: b → rs = rs' ∧ a = b
  | [], [], _, _, h => ⟨rfl, (List.cons.inj h).2⟩
  | [], r :: rs', _, _, h => by cases r <;> cases (List.cons.inj h).1
  | r :: rs, [], _, _, h => by cases r <;> cases (List.cons.inj h).1
  | r :: rs, r' :: rs', a, b, h => by
    rw [List.flatMap_cons, List.flatMap_cons, List.append_assoc, List.append_assoc] at h
    obtain ⟨e, h⟩ := encR_inj h
    obtain ⟨e2, e3⟩ := encT_inj h
    subst e; subst e2; exact ⟨rfl, e3⟩
theorem encK_inj : ∀ {sp sp' : KS}, encK sp = encK sp' → sp = sp'
  | [], [], _ => rfl
  | [], (_, _) :: _, h => by cases h
  | (_, _) :: _, [], h => by cases h
  | (x, rs) :: sp, (y, rs') :: sp', h => by
    have h1 := (List.cons.inj h).1
    obtain ⟨e, e2⟩ := encT_inj (List.cons.inj h).2
    cases h1; subst e
    rw [encK_inj e2]
/-- the mark of a dict that keeps the things of sp -/
def keptP (sp : KS) : HO → Prop := fun u => (∃ kvs, u = .dK kvs) ∨ u = .lst (encK sp)
theorem keptP_inj {sp sp' : KS} (h : keptP sp = keptP sp') : sp = sp' := by
  have e := congrFun h (.lst (encK sp))
  have k : keptP sp' (.lst (encK sp)) := e.mp (.inr rfl)
  rcases k with ⟨_, k⟩ | k
  · cases k
  · exact encK_inj (HO.lst.inj k)
def TRow (Z : Sh) (v : V) (r : List Int) : Prop := ∃ q, v = .ref q ∧ Z q = some (fz (.tup (r.map V.int)))
def TRows (Z : Sh) : List V → List (List Int) → Prop
  | [], [] => True
  | v :: vs, r :: rs => TRow Z v r ∧ TRows Z vs rs
  | _, _ => False
/-- a tuple of tuples of ints -/
def TTab (Z : Sh) (v : V) (rs : List (List Int)) : Prop := ∃ p vs, v = .ref p ∧ Z p = some (fz (.tup vs)) ∧ TRows Z vs rs
theorem TRows.imp {Z Z' : Sh} (h : ∀ a vs, Z a = some (fz (.tup vs)) → Z' a = some (fz (.tup vs))) : ∀ {vs : List V} {rs : List (List Int)}, TRows Z vs rs → TRows Z' vs rs
  | [], [], _ => True.intro
  | _ :: _, _ :: _, ⟨⟨q, e, z⟩, t⟩ => ⟨⟨q, e, h _ _ z⟩, TRows.imp h t⟩
  | [], _ :: _, t => t.elim
  | _ :: _, [], t => t.elim
theorem TTab.imp {Z Z' : Sh} (h : ∀ a vs, Z a = some (fz (.tup vs)) → Z' a = some (fz (.tup vs))) {v : V} {rs : List (List Int)} (t : TTab Z v rs) : TTab Z' v rs :=
  let ⟨p, vs, e, z, r⟩ := t; ⟨p, vs, e, h _ _ z, r.imp h⟩
def KpOk (H : Hp) (Z : Sh) (a : Addr) (sp : KS) : Prop := ∃ kvs, H a = some (.dK kvs) ∧ (kvs.map (·.1)).Nodup ∧ ∀ kv ∈ kvs, ∃ x rs, kv.1 = .inr x ∧ (x, rs) ∈ sp ∧ TTab Z kv.2 rs
theorem KpOk.imp {H H' : Hp} {Z Z' : Sh} {a : Addr} {sp : KS} (h : ∀ a vs, Z a = some (fz (.tup vs)) → Z' a = some (fz (.tup vs))) (k : KpOk H Z a sp) (e : ∀ o, H a = some o → (∀ ps, o ≠ .tbl ps) → H' a = some o) : KpOk H' Z' a sp := by
  obtain ⟨kvs, h1, nd, h2⟩ := k
  exact ⟨kvs, e _ h1 (fun ps z => nomatch z), nd, fun kv hk => let ⟨x, rs, e1, e2, t⟩ := h2 kv hk; ⟨x, rs, e1, e2, t.imp h⟩⟩
theorem KpOk.le {H H' : Hp} {Z Z' : Sh} {a : Addr} {sp : KS} (k : KpOk H Z a sp) (h : Le Z Z') (e : ∀ o, H a = some o → (∀ ps, o ≠ .tbl ps) → H' a = some o) : KpOk H' Z' a sp := k.imp (fun a vs z => h _ _ z) e
/-- no such mark -/
def Nk (φ : HO → Prop) : Prop := ∀ sp, φ ≠ keptP sp
theorem Nk.fz {o : HO} : Nk (DL.fz o) := fun sp e => by
  have h1 : keptP sp (.dK []) := .inl ⟨[], rfl⟩
  have h2 : keptP sp (.dK [(.inl 0, .non)]) := .inl ⟨_, rfl⟩
  rw [← e] at h1 h2
  have h1 : HO.dK [] = o := h1
  have h2 : HO.dK [(.inl 0, .non)] = o := h2
  rw [← h1] at h2
  cases h2
theorem Nk.pen {l : Addr} : Nk (penP l) := fun sp e => by
  have h1 : keptP sp (.dK []) := .inl ⟨[], rfl⟩
  rw [← e] at h1
  obtain ⟨_, _, _, _, _, _, _, h⟩ := h1
  cases h
structure OkZ (H : Hp) (Z : Sh) : Prop where
  ok : ∀ a φ, Z a = some φ → ∃ o, H a = some o ∧ φ o
  tp : ∀ a φ vs, Z a = some φ → H a = some (.tup vs) → φ = fz (.tup vs)
  kp : ∀ a sp, Z a = some (keptP sp) → KpOk H Z a sp
instance {H : Hp} {Z : Sh} : CoeFun (OkZ H Z) fun _ => ∀ a φ, Z a = some φ → ∃ o, H a = some o ∧ φ o := ⟨OkZ.ok⟩
theorem OkZ.none {H : Hp} {Z : Sh} (h : OkZ H Z) {a : Addr} (e : H a = none) : Z a = none := by
  cases q : Z a with
  | none => rfl
  | some φ =>
    obtain ⟨o, ho, _⟩ := h a φ q
    rw [e] at ho; cases ho
/-- neither a table of codes nor a code nor a tuple -/
def Nbo (o : HO) : Prop := (∀ ps, o ≠ .tbl ps) ∧ (∀ c q, o ≠ LamX.CodeO c q) ∧ ∀ vs, o ≠ .tup vs
/-- the mark of a table whose codes all bear the name q -/
def tabM (q : Str) : HO → Prop := fun o => (∃ ps, o = .tbl ps) ∨ o = .lst [.str q]
theorem tabM_inj {q q' : Str} (h : tabM q = tabM q') : q = q' := by
  have e := congrFun h (.lst [.str q])
  have k : tabM q' (.lst [.str q]) := e.mp (.inr rfl)
  rcases k with ⟨ps, k⟩ | k
  · cases k
  · cases k; rfl
theorem Nk.tab {q : Str} : Nk (tabM q) := fun sp e => by
  have h1 : tabM q (.tbl #[]) := .inl ⟨#[], rfl⟩
  rw [e] at h1
  rcases h1 with ⟨_, h⟩ | h <;> cases h
theorem tabM_tbl {q : Str} (ps : Array Value) : tabM q (.tbl ps) := .inl ⟨ps, rfl⟩
/-- nothing stands there, or a table -/
def Fr (H : Hp) (l : Addr) : Prop := ∀ o, H l = some o → ∃ ps, o = .tbl ps
theorem Fr.of {H : Hp} {l : Addr} (h : H l = none) : Fr H l := fun o e => by rw [h] at e; cases e
theorem Fr.ne {H : Hp} {l a : Addr} {o : HO} (f : Fr H l) (h : H a = some o) (n : ∀ ps, o ≠ .tbl ps) : a ≠ l := fun e => by
  subst e
  obtain ⟨ps, z⟩ := f o h
  exact n ps z
/-- no table, and a code by itself alone -/
def Nt (φ : HO → Prop) : Prop := (∀ ps, ¬ φ (.tbl ps)) ∧ (∀ c q, φ (LamX.CodeO c q) → φ = fz (LamX.CodeO c q)) ∧ ∀ vs, φ (.tup vs) → φ = fz (.tup vs)
theorem Nt.fz {o : HO} (h : ∀ ps, o ≠ .tbl ps) : Nt (DL.fz o) := ⟨fun ps e => h ps (show HO.tbl ps = o from e).symm, fun c q e => by
  have e2 : LamX.CodeO c q = o := e
  rw [e2], fun vs e => by
  have e2 : HO.tup vs = o := e
  rw [e2]⟩
theorem Nt.pen {l : Addr} : Nt (penP l) := ⟨fun ps ⟨_, _, _, _, _, _, _, e⟩ => (nomatch (show HO.tbl ps = HO.dK _ from e)), fun c q ⟨_, _, _, _, _, _, _, e⟩ => (nomatch (show HO.ext _ = HO.dK _ from e)), fun vs ⟨_, _, _, _, _, _, _, e⟩ => (nomatch (show HO.tup _ = HO.dK _ from e))⟩
/-- no table is shared but by its mark -/
def NoT (Z : Sh) : Prop := ∀ a φ, Z a = some φ → (∃ q, φ = tabM q) ∨ Nt φ
/-- the table of codes at P, marked, the codes shared -/
def TabZ (Z : Sh) (H : Hp) (P : Addr) (q : Str) : Prop := NoT Z ∧ Z P = some (tabM q) ∧ ∃ ps : Array Value, H P = some (.tbl ps) ∧ TriplesOk ps.toList ∧ ∀ (pos : Pos) (cv : Value), codeAmong pos ps.toList = some cv → ∃ c, cv = .ref c ∧ Z c = some (fz (LamX.CodeO c q))
theorem TabZ.le {Z Z' : Sh} {H : Hp} {P : Addr} {q : Str} (h : Le Z Z') (n : NoT Z') (t : TabZ Z H P q) : TabZ Z' H P q := by
  obtain ⟨_, z, ps, h1, h2, h3⟩ := t
  exact ⟨n, h _ _ z, ps, h1, h2, fun pos cv e => let ⟨c, e1, z⟩ := h3 pos cv e; ⟨c, e1, h _ _ z⟩⟩
theorem TabZ.at_ {Z : Sh} {H H' : Hp} {P : Addr} {q : Str} (t : TabZ Z H P q) (e : H' P = H P) : TabZ Z H' P q := by
  obtain ⟨n, z, ps, h1, h2, h3⟩ := t
  exact ⟨n, z, ps, e.trans h1, h2, h3⟩
theorem TabZ.some {Z : Sh} {H : Hp} {P : Addr} {q : Str} (t : TabZ Z H P q) : ∃ ps, H P = some (.tbl ps) := let ⟨_, _, ps, h, _⟩ := t; ⟨ps, h⟩
def shr (Z : Sh) (p : Addr) (φ : HO → Prop) : Sh := fun a => if a = p then some φ else Z a
theorem shr_same {Z : Sh} {p : Addr} {φ : HO → Prop} : shr Z p φ p = some φ := by unfold shr; rw [if_pos rfl]
theorem shr_ne {Z : Sh} {p a : Addr} {φ : HO → Prop} (h : a ≠ p) : shr Z p φ a = Z a := by unfold shr; rw [if_neg h]
theorem NoT.shr {Z : Sh} {p : Addr} {φ : HO → Prop} (n : NoT Z) (h : Nt φ) : NoT (shr Z p φ) := fun a ψ q => by
  by_cases ha : a = p
  · subst ha; rw [shr_same] at q; cases q; exact .inr h
  · rw [shr_ne ha] at q; exact n a ψ q
theorem shr_tab {Z : Sh} {p P : Addr} {φ : HO → Prop} {q : Str} (h : Nt φ) (z : shr Z p φ P = some (tabM q)) : P ≠ p ∧ Z P = some (tabM q) := by
  by_cases hp : P = p
  · subst hp; rw [shr_same] at z; cases z; exact absurd (tabM_tbl #[]) (h.1 #[])
  · rw [shr_ne hp] at z; exact ⟨hp, z⟩
/-- a step: shared things stay, what is not shared is let alone -/
structure Stp (H : Hp) (Z : Sh) (H' : Hp) (Z' : Sh) : Prop where
  le : Le Z Z'
  ok : OkZ H' Z'
  keep : ∀ a o, H a = some o → Z a = none → Nbo o → H' a = some o ∧ Z' a = none
  tab : ∀ P q, TabZ Z H P q → TabZ Z' H' P q
  tb : ∀ P q, Z' P = some (tabM q) → Z P = some (tabM q)
  stays : ∀ a o, H a = some o → (∀ ps, o ≠ .tbl ps) → ∃ u, H' a = some u ∧ ∀ ps, u ≠ .tbl ps
theorem Stp.refl {H : Hp} {Z : Sh} (h : OkZ H Z) : Stp H Z H Z := ⟨Le.refl Z, h, fun _ _ a b _ => ⟨a, b⟩, fun _ _ t => t, fun _ _ z => z, fun _ o e n => ⟨o, e, n⟩⟩
theorem Stp.trans {H H1 H2 : Hp} {Z Z1 Z2 : Sh} (a : Stp H Z H1 Z1) (b : Stp H1 Z1 H2 Z2) : Stp H Z H2 Z2 :=
  ⟨a.le.trans b.le, b.ok, fun x o h z n => let ⟨h1, z1⟩ := a.keep x o h z n; b.keep x o h1 z1 n, fun P q t => b.tab P q (a.tab P q t), fun P q z => a.tb P q (b.tb P q z), fun x o h n => let ⟨u, hu, nu⟩ := a.stays x o h n; b.stays x u hu nu⟩
theorem Stp.freeF {H H' : Hp} {Z Z' : Sh} (s : Stp H Z H' Z') {a : Addr} (h : Fr H' a) : Fr H a := fun o e => by
  by_cases t : ∃ ps, o = .tbl ps
  · exact t
  · obtain ⟨u, hu, nu⟩ := s.stays a o e fun ps z => t ⟨ps, z⟩
    obtain ⟨ps, z⟩ := h u hu
    exact absurd z (nu ps)
theorem Stp.free {H H' : Hp} {Z Z' : Sh} (s : Stp H Z H' Z') (ok : OkZ H Z) {a : Addr} (h : H' a = Option.none) : Fr H a := s.freeF (.of h)
/-- something new that is nobody's -/
theorem Stp.new {H : Hp} {Z : Sh} {p : Addr} {o : HO} (ok : OkZ H Z) (hp : H p = none) : Stp H Z (upd H p o) Z := by
  refine ⟨Le.refl Z, ⟨fun a φ h => ?_, fun a φ vs h e => ok.tp a φ vs h (by rw [← e, upd_ne]; intro z; subst z; rw [ok.none hp] at h; cases h), fun a sp q => (ok.kp a sp q).le (Le.refl _) fun o e _ => by rw [upd_ne (ne_of_none e hp)]; exact e⟩, fun a u h z _ => ⟨?_, z⟩, fun P q t => t.at_ ?_, fun _ _ z => z, fun a u h n => ⟨u, ?_, n⟩⟩
  · obtain ⟨u, hu, q⟩ := ok a φ h
    exact ⟨u, by rw [upd_ne (ne_of_none hu hp)]; exact hu, q⟩
  · rw [upd_ne (ne_of_none h hp)]; exact h
  · obtain ⟨ps, h1⟩ := t.some
    rw [upd_ne (ne_of_none h1 hp)]
  · rw [upd_ne (ne_of_none h hp)]; exact h
theorem Le.shr {Z : Sh} {p : Addr} {φ : HO → Prop} (h : Z p = none) : Le Z (shr Z p φ) := fun a ψ q => by
  rw [shr_ne (fun e => by rw [e, h] at q; cases q)]; exact q
/-- something new, shared at once -/
theorem Stp.newS {H : Hp} {Z : Sh} {p : Addr} {o : HO} {φ : HO → Prop} (ok : OkZ H Z) (hp : H p = none) (h : φ o) (nt : Nt φ := by exact DL.Nt.fz (by intro ps e; cases e)) (nk : Nk φ := by first | exact DL.Nk.fz | exact DL.Nk.pen) : Stp H Z (upd H p o) (shr Z p φ) := by
  have zp := ok.none hp
  refine ⟨Le.shr zp, ⟨fun a ψ q => ?_, fun a ψ vs q e => ?_, fun a sp q => by
      by_cases ha : a = p
      · subst ha; rw [shr_same] at q; cases q; exact absurd rfl (nk sp)
      · rw [shr_ne ha] at q; exact (ok.kp a sp q).le (Le.shr zp) fun o e _ => by rw [upd_ne ha]; exact e⟩, fun a u e z _ => ?_, fun P q t => ?_, fun P q z => (shr_tab nt z).2, fun a u e n => ⟨u, ?_, n⟩⟩
  rotate_left
  · by_cases ha : a = p
    · subst ha; rw [shr_same] at q; rw [upd_same] at e; cases q; cases e; exact nt.2.2 _ h
    · rw [shr_ne ha] at q; rw [upd_ne ha] at e; exact ok.tp a ψ vs q e
  rotate_right
  · by_cases ha : a = p
    · subst ha; rw [shr_same] at q; cases q; exact ⟨o, upd_same, h⟩
    · rw [shr_ne ha] at q
      obtain ⟨u, hu, r⟩ := ok a ψ q
      exact ⟨u, by rw [upd_ne ha]; exact hu, r⟩
  · have ha : a ≠ p := ne_of_none e hp
    exact ⟨by rw [upd_ne ha]; exact e, by rw [shr_ne ha]; exact z⟩
  · obtain ⟨ps, h1⟩ := t.some
    have ha : P ≠ p := ne_of_none h1 hp
    exact (t.le (Le.shr zp) (t.1.shr nt)).at_ (by rw [upd_ne ha])
  · rw [upd_ne (ne_of_none e hp)]; exact e
/-- what is one's own is shared now; the step came from a heap that did not know it -/
theorem Stp.share {H H' : Hp} {Z Z' : Sh} {p : Addr} {o : HO} {φ : HO → Prop} (s : Stp H Z H' Z') (hp : Fr H p) (zp : Z' p = none) (ho : H' p = some o) (h : φ o) (nt : Nt φ) (nk : Nk φ := by first | exact DL.Nk.fz | exact DL.Nk.pen) : Stp H Z H' (shr Z' p φ) := by
  refine ⟨s.le.trans (Le.shr zp), ⟨fun a ψ q => ?_, fun a ψ vs q e => ?_, fun a sp q => by
      by_cases ha : a = p
      · subst ha; rw [shr_same] at q; cases q; exact absurd rfl (nk sp)
      · rw [shr_ne ha] at q; exact (s.ok.kp a sp q).le (Le.shr zp) fun o e _ => e⟩, fun a u e z n => ?_, fun P q t => (s.tab P q t).le (Le.shr zp) ((s.tab P q t).1.shr nt), fun P q z => s.tb P q (shr_tab nt z).2, s.stays⟩
  rotate_left
  · by_cases ha : a = p
    · subst ha; rw [shr_same] at q; rw [ho] at e; cases q; cases e; exact nt.2.2 _ h
    · rw [shr_ne ha] at q; exact s.ok.tp a ψ vs q e
  rotate_right
  · by_cases ha : a = p
    · subst ha; rw [shr_same] at q; cases q; exact ⟨o, ho, h⟩
    · rw [shr_ne ha] at q; exact s.ok a ψ q
  · have ha : a ≠ p := hp.ne e n.1
    obtain ⟨h1, z1⟩ := s.keep a u e z n
    exact ⟨h1, by rw [shr_ne ha]; exact z1⟩
/-- one's own thing changes -/
theorem Stp.own {H H' : Hp} {Z Z' : Sh} {p : Addr} {o : HO} (s : Stp H Z H' Z') (hp : Fr H p) (zp : Z' p = none) : Stp H Z (upd H' p o) Z' := by
  refine ⟨s.le, ⟨fun a ψ q => ?_, fun a ψ vs q e => s.ok.tp a ψ vs q (by rw [← e, upd_ne]; intro z; subst z; rw [zp] at q; cases q), fun a sp q => (s.ok.kp a sp q).le (Le.refl _) fun o e _ => by
      have ha : a ≠ p := fun e => by rw [e, zp] at q; cases q
      rw [upd_ne ha]; exact e⟩, fun a u e z n => ?_, fun P q t => ?_, s.tb, fun a u e n => ?_⟩
  · have ha : a ≠ p := fun e => by rw [e, zp] at q; cases q
    rw [upd_ne ha]; exact s.ok a ψ q
  · have ha : a ≠ p := hp.ne e n.1
    rw [upd_ne ha]; exact s.keep a u e z n
  · have ha : P ≠ p := fun e => by
      have z := s.le _ _ t.2.1
      rw [e, zp] at z; cases z
    exact (s.tab P q t).at_ (by rw [upd_ne ha])
  · have ha : a ≠ p := hp.ne e n
    rw [upd_ne ha]; exact s.stays a u e n

/-- a new dict of one's own will keep the things of sp -/
theorem Stp.shareK {H H' : Hp} {Z Z' : Sh} {p : Addr} {sp : KS} (s : Stp H Z H' Z') (hp : Fr H p) (zp : Z' p = none) (ho : H' p = some (.dK [])) : Stp H Z H' (shr Z' p (keptP sp)) := by
  have nt : Nt (keptP sp) := ⟨fun ps e => (by rcases e with ⟨_, e⟩ | e <;> cases e), fun c q e => (by rcases e with ⟨_, e⟩ | e <;> cases e), fun vs e => (by rcases e with ⟨_, e⟩ | e <;> cases e)⟩
  refine ⟨s.le.trans (Le.shr zp), ⟨fun a ψ q => ?_, fun a ψ vs q e => ?_, fun a sp2 q => ?_⟩, fun a u e z n => ?_, fun P q t => (s.tab P q t).le (Le.shr zp) ((s.tab P q t).1.shr nt), fun P q z => s.tb P q (shr_tab nt z).2, s.stays⟩
  · by_cases ha : a = p
    · subst ha; rw [shr_same] at q; cases q; exact ⟨_, ho, .inl ⟨_, rfl⟩⟩
    · rw [shr_ne ha] at q; exact s.ok a ψ q
  · by_cases ha : a = p
    · subst ha; rw [ho] at e; cases e
    · rw [shr_ne ha] at q; exact s.ok.tp a ψ vs q e
  · by_cases ha : a = p
    · subst ha
      exact ⟨[], ho, .nil, fun kv hk => (nomatch hk)⟩
    · rw [shr_ne ha] at q; exact (s.ok.kp a sp2 q).le (Le.shr zp) fun o e _ => e
  · have ha : a ≠ p := hp.ne e n.1
    obtain ⟨h1, z1⟩ := s.keep a u e z n
    exact ⟨h1, by rw [shr_ne ha]; exact z1⟩
/-- something is kept -/
theorem Stp.fill {H : Hp} {Z : Sh} {p : Addr} {sp : KS} {kvs : List (Key × V)} (ok : OkZ H Z) (z : Z p = some (keptP sp)) (nd : (kvs.map (·.1)).Nodup) (h : ∀ kv ∈ kvs, ∃ x rs, kv.1 = .inr x ∧ (x, rs) ∈ sp ∧ TTab Z kv.2 rs) : Stp H Z (upd H p (.dK kvs)) Z := by
  obtain ⟨old, ho, _⟩ := ok.kp p sp z
  refine ⟨Le.refl Z, ⟨fun a ψ q => ?_, fun a ψ vs q e => ?_, fun a sp2 q => ?_⟩, fun a u e y n => ?_, fun P q t => ?_, fun _ _ y => y, fun a u e n => ?_⟩
  · by_cases ha : a = p
    · subst ha; rw [z] at q; cases q; exact ⟨_, upd_same, .inl ⟨_, rfl⟩⟩
    · rw [upd_ne ha]; exact ok a ψ q
  · by_cases ha : a = p
    · subst ha; rw [upd_same] at e; cases e
    · rw [upd_ne ha] at e; exact ok.tp a ψ vs q e
  · by_cases ha : a = p
    · subst ha
      rw [z] at q
      have := keptP_inj (Option.some.inj q)
      subst this
      exact ⟨kvs, upd_same, nd, h⟩
    · exact (ok.kp a sp2 q).le (Le.refl _) fun o e _ => by rw [upd_ne ha]; exact e
  · have ha : a ≠ p := fun e2 => by rw [e2, z] at y; cases y
    exact ⟨by rw [upd_ne ha]; exact e, y⟩
  · obtain ⟨ps, h1⟩ := t.some
    have ha : P ≠ p := fun e2 => by rw [e2, ho] at h1; cases h1
    exact t.at_ (by rw [upd_ne ha])
  · by_cases ha : a = p
    · subst ha; exact ⟨_, upd_same, fun ps z => nomatch z⟩
    · exact ⟨u, by rw [upd_ne ha]; exact e, n⟩
/-! ### what a value stands for -/
mutual
inductive Rp (K : PySem.W.Frag) (Z : Sh) : V → D → Prop
  | non : Rp K Z .non .non
  | bl {b : Bool} : Rp K Z (.bl b) (.bl b)
  | int {i : Int} : Rp K Z (.int i) (.int i)
  | str {x : Str} : Rp K Z (.str x) (.str x)
  | ty {n : String} : Rp K Z (.ty n) (.ty n)
  | tup {a : Addr} {vs : List V} {ds : List D} : Z a = some (fz (.tup vs)) → Rps K Z vs ds → Rp K Z (.ref a) (.tup ds)
  | lst {a : Addr} {vs : List V} {ds : List D} : Z a = some (fz (.lst vs)) → Rps K Z vs ds → Rp K Z (.ref a) (.lst ds)
  | lsA {a : Addr} {vs : List V} {ds : List D} : Z a = some (fz (.lst vs)) → Rps K Z vs ds → Rp K Z (.ref a) (.lsA a ds)
  | ins {a C dx : Addr} {ns : List Str} {vs : List V} {ds : List D} : Z a = some (fz (.ins C dx (ns.zip vs))) → ns.length = vs.length → Rps K Z vs ds → Rp K Z (.ref a) (.ins C ns ds)
  | adr {a : Addr} : Rp K Z (.ref a) (.adr a)
  | scrK {a : Addr} {ns : List Int} : (∃ (o : Obj) (its : Array Value) (n : Nat), K.lookup a = some o ∧ o.cls = .type "list" ∧ o.dict = none ∧ o.data = .seq its n ∧ its.size ≤ sizeLine ∧ Vals (ns.map V.int) its.toList) → Rp K Z (.ref a) (.scr ns)
  | scrL {a : Addr} {ns : List Int} : Z a = some (fz (.lst (ns.map V.int))) → Rp K Z (.ref a) (.scr ns)
  | scrF {a : Addr} {ns : List Int} {o : Obj} : Z a = some (fz (.frz o (.lst (ns.map V.int)))) → Rp K Z (.ref a) (.scr ns)
  | dK {a : Addr} {ks : List Key} {vs : List V} {ds : List D} : Z a = some (fz (.dK (ks.zip vs))) → ks.length = vs.length → Rps K Z vs ds → Rp K Z (.ref a) (.dK ks ds)
  | dT {a : Addr} {ks : List (List Key)} {vs : List V} {ds : List D} : Z a = some (fz (.dT (ks.zip vs))) → ks.length = vs.length → Rps K Z vs ds → Rp K Z (.ref a) (.dT ks ds)
  | fK {a : Addr} {o : Obj} {ks : List Key} {vs : List V} {ds : List D} : Z a = some (fz (.frz o (.dK (ks.zip vs)))) → ks.length = vs.length → Rps K Z vs ds → Rp K Z (.ref a) (.fK ks ds)
  | fT {a : Addr} {o : Obj} {ks : List (List Key)} {vs : List V} {ds : List D} : Z a = some (fz (.frz o (.dT (ks.zip vs)))) → ks.length = vs.length → Rps K Z vs ds → Rp K Z (.ref a) (.fT ks ds)
  | xc {a C dd : Addr} {ns : List Str} {vs : List V} {ds : List D} : Z dd = some (fz (.xd (ns.zip vs))) → ns.length = vs.length → Rps K Z vs ds → Rp K Z (.ref a) (.xc a C dd ns ds)
  | kep {a : Addr} {sp : KS} : Z a = some (keptP sp) → Rp K Z (.ref a) (.kep sp)
  | pen {p l : Addr} {ns : List Int} : Z p = some (penP l) → Z l = some (fz (.lst (ns.map V.int))) → Rp K Z (.ref p) .pen
inductive Rps (K : PySem.W.Frag) (Z : Sh) : List V → List D → Prop
  | nil : Rps K Z [] []
  | cons {v : V} {d : D} {vs : List V} {ds : List D} : Rp K Z v d → Rps K Z vs ds → Rps K Z (v :: vs) (d :: ds)
end
section
variable {K : PySem.W.Frag} {Z Z' : Sh}
mutual
theorem Rp.le (h : Le Z Z') : ∀ {v : V} {d : D}, Rp K Z v d → Rp K Z' v d
  | _, _, .non => .non
  | _, _, .bl => .bl
  | _, _, .int => .int
  | _, _, .str => .str
  | _, _, .ty => .ty
  | _, _, .tup z r => .tup (h _ _ z) (Rps.le h r)
  | _, _, .lst z r => .lst (h _ _ z) (Rps.le h r)
  | _, _, .lsA z r => .lsA (h _ _ z) (Rps.le h r)
  | _, _, .ins z e r => .ins (h _ _ z) e (Rps.le h r)
  | _, _, .adr => .adr
  | _, _, .scrK z => .scrK z
  | _, _, .scrL z => .scrL (h _ _ z)
  | _, _, .scrF z => .scrF (h _ _ z)
  | _, _, .dK z e r => .dK (h _ _ z) e (Rps.le h r)
  | _, _, .dT z e r => .dT (h _ _ z) e (Rps.le h r)
  | _, _, .fK z e r => .fK (h _ _ z) e (Rps.le h r)
  | _, _, .fT z e r => .fT (h _ _ z) e (Rps.le h r)
  | _, _, .xc z e r => .xc (h _ _ z) e (Rps.le h r)
  | _, _, .pen z y => .pen (h _ _ z) (h _ _ y)
  | _, _, .kep z => .kep (h _ _ z)
theorem Rps.le (h : Le Z Z') : ∀ {vs : List V} {ds : List D}, Rps K Z vs ds → Rps K Z' vs ds
  | _, _, .nil => .nil
  | _, _, .cons r t => .cons (Rp.le h r) (Rps.le h t)
end
theorem Rps.length : ∀ {vs : List V} {ds : List D}, Rps K Z vs ds → vs.length = ds.length
  | _, _, .nil => rfl
  | _, _, .cons _ t => congrArg (· + 1) (Rps.length t)
theorem Rps.get : ∀ {vs : List V} {ds : List D} {i : Nat} {d : D}, Rps K Z vs ds → ds[i]? = some d → ∃ v, vs[i]? = some v ∧ Rp K Z v d
  | _, _, _, _, .nil, e => by simp at e
  | _, _, 0, _, .cons r _, e => by simp at e; subst e; exact ⟨_, rfl, r⟩
  | _, _, i + 1, d, .cons _ t, e => by
    obtain ⟨v, h1, h2⟩ := Rps.get (i := i) (d := d) t (by simpa using e)
    exact ⟨v, by simpa using h1, h2⟩
theorem Rps.getV : ∀ {vs : List V} {ds : List D} {i : Nat} {v : V}, Rps K Z vs ds → vs[i]? = some v → ∃ d, ds[i]? = some d ∧ Rp K Z v d
  | _, _, _, _, .nil, e => by simp at e
  | _, _, 0, _, .cons r _, e => by simp at e; subst e; exact ⟨_, rfl, r⟩
  | _, _, i + 1, v, .cons _ t, e => by
    obtain ⟨d, h1, h2⟩ := Rps.getV (i := i) (v := v) t (by simpa using e)
    exact ⟨d, by simpa using h1, h2⟩
theorem Rps.append : ∀ {vs ws : List V} {ds es : List D}, Rps K Z vs ds → Rps K Z ws es → Rps K Z (vs ++ ws) (ds ++ es)
  | _, _, _, _, .nil, s => s
  | _, _, _, _, .cons r t, s => .cons r (Rps.append t s)
theorem Rps.set {v : V} {d : D} (r : Rp K Z v d) : ∀ {vs : List V} {ds : List D} (i : Nat), Rps K Z vs ds → Rps K Z (vs.set i v) (ds.set i d)
  | _, _, _, .nil => .nil
  | _, _, 0, .cons _ t => .cons r t
  | _, _, i + 1, .cons q t => .cons q (Rps.set r i t)
theorem Rps.take : ∀ {vs : List V} {ds : List D} (n : Nat), Rps K Z vs ds → Rps K Z (vs.take n) (ds.take n)
  | _, _, 0, _ => .nil
  | _, _, _ + 1, .nil => .nil
  | _, _, n + 1, .cons r t => .cons r (Rps.take n t)
theorem Rps.drop : ∀ {vs : List V} {ds : List D} (n : Nat), Rps K Z vs ds → Rps K Z (vs.drop n) (ds.drop n)
  | _, _, 0, r => r
  | _, _, _ + 1, .nil => .nil
  | _, _, n + 1, .cons _ t => Rps.drop n t
theorem Rps.ints : ∀ (ns : List Int), Rps K Z (ns.map V.int) (ns.map D.int)
  | [] => .nil
  | n :: ns => .cons .int (Rps.ints ns)
theorem Rps.of_ints : ∀ {vs : List V} {ns : List Int}, Rps K Z vs (ns.map D.int) → vs = ns.map V.int
  | _, [], .nil => rfl
  | _, n :: ns, .cons r t => by cases r; rw [Rps.of_ints t]; rfl
theorem Rps.lookup : ∀ {ns : List Str} {vs : List V} {ds : List D} {f : Str} {d : D}, Rps K Z vs ds → (ns.zip ds).lookup f = some d → ∃ v, (ns.zip vs).lookup f = some v ∧ Rp K Z v d
  | [], _, _, _, _, _, e => by simp [List.lookup] at e
  | _ :: _, _, _, _, _, .nil, e => by simp [List.lookup] at e
  | n :: ns, _, _, f, d, .cons r t, e => by
    simp only [List.zip_cons_cons, List.lookup_cons] at e ⊢
    cases q : (f == n) with
    | true => rw [q] at e; cases e; exact ⟨_, rfl, r⟩
    | false => rw [q] at e; exact Rps.lookup t e
theorem Rps.lookup_none : ∀ {ns : List Str} {vs : List V} {f : Str}, f ∉ ns → (ns.zip vs).lookup f = none
  | [], _, _, _ => by simp [List.lookup]
  | _ :: _, [], _, _ => by simp [List.lookup]
  | n :: ns, v :: vs, f, h => by
    simp only [List.zip_cons_cons, List.lookup_cons]
    have h1 : (f == n) = false := by
      simp only [beq_eq_false_iff_ne]; exact fun e => h (e ▸ List.mem_cons_self)
    rw [h1]
    exact Rps.lookup_none fun m => h (List.mem_cons_of_mem _ m)
end

/-- what a thing of one's own stands for -/
inductive Ow (K : PySem.W.Frag) (Z : Sh) (a : Addr) : HO → D → Prop
  | lst {vs : List V} {ds : List D} : Rps K Z vs ds → Ow K Z a (.lst vs) (.ol ds)
  | ins {C dx : Addr} {ns : List Str} {vs : List V} {ds : List D} : ns.length = vs.length → Rps K Z vs ds → Ow K Z a (.ins C dx (ns.zip vs)) (.oi a C ns ds)
  | dK {ks : List Key} {vs : List V} {ds : List D} : ks.length = vs.length → Rps K Z vs ds → Ow K Z a (.dK (ks.zip vs)) (.oK a ks ds)
  | dT {ks : List (List Key)} {vs : List V} {ds : List D} : ks.length = vs.length → Rps K Z vs ds → Ow K Z a (.dT (ks.zip vs)) (.oT a ks ds)
theorem Ow.le {K : PySem.W.Frag} {Z Z' : Sh} {a : Addr} {o : HO} {d : D} (h : Le Z Z') (r : Ow K Z a o d) : Ow K Z' a o d := by
  cases r with
  | lst r => exact .lst (r.le h)
  | ins e r => exact .ins e (r.le h)
  | dK e r => exact .dK e (r.le h)
  | dT e r => exact .dT e (r.le h)
theorem Ow.nbo {K : PySem.W.Frag} {Z : Sh} {a : Addr} {o : HO} {d : D} (r : Ow K Z a o d) : Nbo o := by
  cases r <;> exact ⟨fun ps e => (nomatch e), fun c q e => (nomatch (show _ = HO.ext _ from e)), fun vs e => (nomatch e)⟩
theorem Ow.own {K : PySem.W.Frag} {Z : Sh} {a : Addr} {o : HO} {d : D} (r : Ow K Z a o d) : d.own = true := by cases r <;> rfl
theorem Ow.frz {K : PySem.W.Frag} {Z : Sh} {o : HO} {d : D} {a : Addr} (r : Ow K Z a o d) (h : Z a = some (fz o)) : Rp K Z (.ref a) d.frz := by
  cases r with
  | lst r => exact .lst h r
  | ins e r => exact .ins h e r
  | dK e r => exact .dK h e r
  | dT e r => exact .dT h e r
/-- a value of one's own or frozen: a result behind a step from H -/
def Rr (K : PySem.W.Frag) (H H' : Hp) (Z' : Sh) (v : V) (d : D) : Prop :=
  Rp K Z' v d ∨ ∃ l o, v = .ref l ∧ Fr H l ∧ Z' l = none ∧ H' l = some o ∧ Ow K Z' l o d

/-! ### slots -/
abbrev Dl := List (Option D)
structure Slots (K : PySem.W.Frag) (H0 : Hp) (Z0 : Sh) (σ : L2.St) (H : Hp) (Z : Sh) (Δ : Dl) : Prop where
  ok0 : OkZ H0 Z0
  stp : Stp H0 Z0 H Z
  len : σ.length = Δ.length
  at_ : ∀ (i : Nat) (d : D), Δ[i]? = some (some d) → ∃ v, σ[i]? = some (some v) ∧ Rr K H0 H Z v d
  sep : ∀ (i j : Nat) (d e : D) (l : Addr), Δ[i]? = some (some d) → Δ[j]? = some (some e) → d.own = true → e.own = true → σ[i]? = some (some (.ref l)) → σ[j]? = some (some (.ref l)) → i = j
section
variable {K : PySem.W.Frag} {H0 : Hp} {Z0 : Sh} {σ : L2.St} {H H' : Hp} {Z Z' : Sh} {Δ : Dl}
theorem Rr.step {v : V} {d : D} (h : Rr K H0 H Z v d) (s : Stp H Z H' Z') : Rr K H0 H' Z' v d := by
  rcases h with h | ⟨l, o, e2, h0, z, hl, r⟩
  · exact .inl (h.le s.le)
  · obtain ⟨h1, z1⟩ := s.keep l _ hl z r.nbo
    exact .inr ⟨l, o, e2, h0, z1, h1, r.le s.le⟩
theorem Slots.step (h : Slots K H0 Z0 σ H Z Δ) (s : Stp H Z H' Z') : Slots K H0 Z0 σ H' Z' Δ :=
  ⟨h.ok0, h.stp.trans s, h.len, fun i d e => let ⟨v, e1, r⟩ := h.at_ i d e; ⟨v, e1, r.step s⟩, h.sep⟩
theorem Slots.ok (h : Slots K H0 Z0 σ H Z Δ) : OkZ H Z := h.stp.ok
theorem Slots.get (h : Slots K H0 Z0 σ H Z Δ) {i : Nat} {d : D} (e : Δ[i]? = some (some d)) (ho : d.own = false) : ∃ v, σ[i]? = some (some v) ∧ Rp K Z v d := by
  obtain ⟨v, e1, r⟩ := h.at_ i d e
  rcases r with r | ⟨l, o, e2, _, _, _, r⟩
  · exact ⟨v, e1, r⟩
  · rw [r.own] at ho; cases ho
theorem not_own {v : V} {d : D} (r : Rp K Z v d) : d.own = false := by cases r <;> rfl
theorem Slots.getO (h : Slots K H0 Z0 σ H Z Δ) {i : Nat} {d : D} (e : Δ[i]? = some (some d)) (ho : d.own = true) : ∃ l o, σ[i]? = some (some (.ref l)) ∧ Fr H0 l ∧ Z l = none ∧ H l = some o ∧ Ow K Z l o d := by
  obtain ⟨v, e1, r⟩ := h.at_ i _ e
  rcases r with r | ⟨l, o, e3, r⟩
  · rw [not_own r] at ho; cases ho
  · subst e3; exact ⟨l, o, e1, r⟩
theorem setAt {α : Type} {l : List α} {i j : Nat} {x y : α} (q : (l.set i x)[j]? = some y) : (i = j ∧ y = x ∧ i < l.length) ∨ (i ≠ j ∧ l[j]? = some y) := by
  by_cases hj : i = j
  · subst hj
    have hi : i < l.length := by have := (List.getElem?_eq_some_iff.mp q).1; simpa using this
    rw [List.getElem?_set_self hi] at q
    cases q; exact .inl ⟨rfl, rfl, hi⟩
  · rw [List.getElem?_set_ne hj] at q
    exact .inr ⟨hj, q⟩
/-- a slot is set to a frozen value -/
theorem Slots.set (h : Slots K H0 Z0 σ H Z Δ) (i : Nat) {v : V} {d : D} (r : Rp K Z v d) : Slots K H0 Z0 (σ.set i (some v)) H Z (Δ.set i (some d)) := by
  refine ⟨h.ok0, h.stp, by simp [h.len], fun j e q => ?_, fun j j' d1 d2 l q1 q2 o1 o2 s1 s2 => ?_⟩
  · rcases setAt q with ⟨hj, e1, hi⟩ | ⟨hj, q⟩
    · subst hj; cases e1
      exact ⟨v, by rw [List.getElem?_set_self (by rw [h.len]; exact hi)], .inl r⟩
    · obtain ⟨v', e1, r'⟩ := h.at_ j e q
      exact ⟨v', by rw [List.getElem?_set_ne hj]; exact e1, r'⟩
  · have ne : ∀ {m : Nat} {dd : D}, (Δ.set i (some d))[m]? = some (some dd) → dd.own = true → i ≠ m ∧ Δ[m]? = some (some dd) := fun {m dd} q o => by
      rcases setAt q with ⟨hj, e1, hi⟩ | p
      · cases e1; rw [not_own r] at o; cases o
      · exact p
    obtain ⟨n1, p1⟩ := ne q1 o1
    obtain ⟨n2, p2⟩ := ne q2 o2
    rw [List.getElem?_set_ne n1] at s1
    rw [List.getElem?_set_ne n2] at s2
    exact h.sep j j' d1 d2 l p1 p2 o1 o2 s1 s2
/-- .. to a new thing of one's own -/
theorem Slots.setO (h : Slots K H0 Z0 σ H Z Δ) (s : Stp H Z H' Z') (i : Nat) {v : V} {d : D} (r : Rr K H H' Z' v d) : Slots K H0 Z0 (σ.set i (some v)) H' Z' (Δ.set i (some d)) := by
  rcases r with r | ⟨l, o, rfl, hl, zl, hl', r⟩
  · exact (h.step s).set i r
  have h' := h.step s
  have fresh0 : Fr H0 l := h.stp.freeF hl
  refine ⟨h.ok0, h'.stp, by simp [h.len], fun j e q => ?_, fun j j' d1 d2 a q1 q2 o1 o2 s1 s2 => ?_⟩
  · rcases setAt q with ⟨hj, e1, hi⟩ | ⟨hj, q⟩
    · subst hj; cases e1
      exact ⟨_, by rw [List.getElem?_set_self (by rw [h.len]; exact hi)], .inr ⟨l, o, rfl, fresh0, zl, hl', r⟩⟩
    · obtain ⟨v', e1, r'⟩ := h'.at_ j e q
      exact ⟨v', by rw [List.getElem?_set_ne hj]; exact e1, r'⟩
  · have old : ∀ {m : Nat} {dd : D} {b : Addr}, Δ[m]? = some (some dd) → dd.own = true → σ[m]? = some (some (.ref b)) → b ≠ l := fun {m dd b} q o e z => by
      obtain ⟨l', o', e1, _, _, hb, ow⟩ := h.getO q o
      rw [e] at e1; cases e1
      exact hl.ne hb ow.nbo.1 z
    have hl2 : ∀ {m : Nat} {b : Addr}, i = m → (σ.set i (some (V.ref l)))[m]? = some (some (.ref b)) → b = l := fun {m b} e q => by
      rcases setAt q with ⟨_, e1, _⟩ | ⟨n, _⟩
      · cases e1; rfl
      · exact absurd e n
    have hs : ∀ {m : Nat} {b : Addr}, i ≠ m → (σ.set i (some (V.ref l)))[m]? = some (some (.ref b)) → σ[m]? = some (some (.ref b)) := fun {m b} e q => by
      rw [List.getElem?_set_ne e] at q; exact q
    rcases setAt q1 with ⟨e1, _, _⟩ | ⟨n1, p1⟩ <;> rcases setAt q2 with ⟨e2, _, _⟩ | ⟨n2, p2⟩
    · rw [← e1, ← e2]
    · exact absurd (hl2 e1 s1) (old p2 o2 (hs n2 s2))
    · exact absurd (hl2 e2 s2) (old p1 o1 (hs n1 s1))
    · exact h.sep j j' d1 d2 a p1 p2 o1 o2 (hs n1 s1) (hs n2 s2)
/-- what a slot holds is forgotten -/
theorem Slots.drop (h : Slots K H0 Z0 σ H Z Δ) (i : Nat) : Slots K H0 Z0 σ H Z (Δ.set i none) := by
  have g : ∀ {m : Nat} {d : D}, (Δ.set i none)[m]? = some (some d) → Δ[m]? = some (some d) := fun {m d} q => by
    rcases setAt q with ⟨_, e, _⟩ | ⟨_, p⟩
    · cases e
    · exact p
  exact ⟨h.ok0, h.stp, by simp [h.len], fun j e q => h.at_ j e (g q), fun j j' d1 d2 l q1 q2 => h.sep j j' d1 d2 l (g q1) (g q2)⟩
/-- a thing of one's own is let go -/
theorem Slots.lets (h : Slots K H0 Z0 σ H Z Δ) {i : Nat} {d : D} (e : Δ[i]? = some (some d)) (ho : d.own = true) : ∃ l o, Z l = none ∧ H l = some o ∧ Slots K H0 Z0 σ H (shr Z l (fz o)) (Δ.set i (some d.frz)) := by
  obtain ⟨l, o, e1, h0, zl, hl, r⟩ := h.getO e ho
  have le : Le Z (shr Z l (fz o)) := Le.shr zl
  refine ⟨l, o, zl, hl, h.ok0, h.stp.share h0 zl hl rfl (.fz r.nbo.1), by simp [h.len], fun j d' q => ?_, fun j j' d1 d2 a q1 q2 o1 o2 s1 s2 => ?_⟩
  · rcases setAt q with ⟨hj, e2, _⟩ | ⟨hj, q⟩
    · subst hj; cases e2
      exact ⟨_, e1, .inl ((r.le le).frz shr_same)⟩
    · obtain ⟨v', e2, r'⟩ := h.at_ j d' q
      refine ⟨v', e2, ?_⟩
      rcases r' with r' | ⟨l', o', rfl, h0', z', hl', r'⟩
      · exact .inl (r'.le le)
      · have ne : l' ≠ l := fun z => hj (h.sep i j _ _ l e q ho r'.own e1 (by rw [← z]; exact e2))
        exact .inr ⟨l', o', rfl, h0', by rw [shr_ne ne]; exact z', hl', r'.le le⟩
  · have g : ∀ {m : Nat} {d' : D}, (Δ.set i (some d.frz))[m]? = some (some d') → d'.own = true → Δ[m]? = some (some d') := fun {m d'} q o' => by
      rcases setAt q with ⟨_, e2, _⟩ | ⟨_, p⟩
      · cases e2
        have : d.frz.own = false := by cases d <;> first | rfl | cases ho
        rw [this] at o'; cases o'
      · exact p
    exact h.sep j j' d1 d2 a (g q1 o1) (g q2 o2) o1 o2 s1 s2
theorem Slots.letsO (h : Slots K H0 Z0 σ H Z Δ) {i : Nat} {d : D} (e : Δ[i]? = some (some d)) (ho : d.own = true) : ∃ l o, Z l = none ∧ H l = some o ∧ Slots K H0 Z0 σ H (shr Z l (fz o)) (Δ.set i (some d.frz)) ∧ Ow K Z l o d := by
  obtain ⟨l, o, e1, h0, zl, hl, r⟩ := h.getO e ho
  have le : Le Z (shr Z l (fz o)) := Le.shr zl
  refine ⟨l, o, zl, hl, ⟨h.ok0, h.stp.share h0 zl hl rfl (.fz r.nbo.1), by simp [h.len], fun j d' q => ?_, fun j j' d1 d2 a q1 q2 o1 o2 s1 s2 => ?_⟩, r⟩
  · rcases setAt q with ⟨hj, e2, _⟩ | ⟨hj, q⟩
    · subst hj; cases e2
      exact ⟨_, e1, .inl ((r.le le).frz shr_same)⟩
    · obtain ⟨v', e2, r'⟩ := h.at_ j d' q
      refine ⟨v', e2, ?_⟩
      rcases r' with r' | ⟨l', o', rfl, h0', z', hl', r'⟩
      · exact .inl (r'.le le)
      · have ne : l' ≠ l := fun z => hj (h.sep i j _ _ l e q ho r'.own e1 (by rw [← z]; exact e2))
        exact .inr ⟨l', o', rfl, h0', by rw [shr_ne ne]; exact z', hl', r'.le le⟩
  · have g : ∀ {m : Nat} {d' : D}, (Δ.set i (some d.frz))[m]? = some (some d') → d'.own = true → Δ[m]? = some (some d') := fun {m d'} q o' => by
      rcases setAt q with ⟨_, e2, _⟩ | ⟨_, p⟩
      · cases e2
        have : d.frz.own = false := by cases d <;> first | rfl | cases ho
        rw [this] at o'; cases o'
      · exact p
    exact h.sep j j' d1 d2 a (g q1 o1) (g q2 o2) o1 o2 s1 s2
theorem Slots.freeze (h : Slots K H0 Z0 σ H Z Δ) {i : Nat} {d : D} (e : Δ[i]? = some (some d)) (ho : d.own = true) : ∃ Z', Le Z Z' ∧ Slots K H0 Z0 σ H Z' (Δ.set i (some d.frz)) :=
  let ⟨_, _, zl, _, s⟩ := h.lets e ho; ⟨_, Le.shr zl, s⟩
/-- a thing of one's own changes -/
theorem Slots.put (h : Slots K H0 Z0 σ H Z Δ) {i : Nat} {d d' : D} {l : Addr} {o : HO} (e : Δ[i]? = some (some d)) (ho : d.own = true) (el : σ[i]? = some (some (.ref l))) (r : Ow K Z l o d') :
    Slots K H0 Z0 σ (upd H l o) Z (Δ.set i (some d')) := by
  obtain ⟨l', o', e1, h0, zl, hl, _⟩ := h.getO e ho
  rw [el] at e1; cases e1
  refine ⟨h.ok0, h.stp.own h0 zl, by simp [h.len], fun j dd q => ?_, fun j j' d1 d2 a q1 q2 o1 o2 s1 s2 => ?_⟩
  · rcases setAt q with ⟨hj, e2, _⟩ | ⟨hj, q⟩
    · subst hj; cases e2
      exact ⟨_, el, .inr ⟨l, o, rfl, h0, zl, upd_same, r⟩⟩
    · obtain ⟨v', e2, r'⟩ := h.at_ j dd q
      refine ⟨v', e2, ?_⟩
      rcases r' with r' | ⟨l', o', rfl, h0', z', hl', r'⟩
      · exact .inl r'
      · have ne : l' ≠ l := fun z => hj (h.sep i j _ _ l e q ho r'.own el (by rw [← z]; exact e2))
        exact .inr ⟨l', o', rfl, h0', z', by rw [upd_ne ne]; exact hl', r'⟩
  · have g : ∀ {m : Nat} {dd : D}, (Δ.set i (some d'))[m]? = some (some dd) → dd.own = true → ∃ d'', Δ[m]? = some (some d'') ∧ d''.own = true := fun {m dd} q o => by
      rcases setAt q with ⟨e2, _, _⟩ | ⟨_, p⟩
      · subst e2; exact ⟨_, e, ho⟩
      · exact ⟨dd, p, o⟩
    obtain ⟨d1', q1, o1⟩ := g q1 o1
    obtain ⟨d2', q2, o2⟩ := g q2 o2
    exact h.sep j j' d1' d2' a q1 q2 o1 o2 s1 s2
end
end DL
end
section
set_option Elab.async false
set_option linter.all false
set_option maxRecDepth 100000
set_option maxHeartbeats 4000000
/-! DL1: the judgements over data, and their rules. -/
namespace DL
open PySem PySem.Spec PyProof.Rows L2

/-- an exception of a class of one's own: its class, its fields -/
structure XD where
  C : Addr
  ns : List Str
  ds : List D
/-- tables of codes: all that are marked; the def's own code object, its table, the name that its lambdas' codes bear -/
structure Lm where
  T : List (Addr × Str)
  me : Option (Addr × Addr × Str)
def TabsZ (T : List (Addr × Str)) (Z : Sh) (H : Hp) : Prop := T ≠ [] → (∀ p ∈ T, TabZ Z H p.1 p.2) ∧ ∀ P q, Z P = some (tabM q) → (P, q) ∈ T
theorem TabsZ.step {T : List (Addr × Str)} {H H' : Hp} {Z Z' : Sh} (t : TabsZ T Z H) (s : Stp H Z H' Z') : TabsZ T Z' H' := fun n => ⟨fun p hp => s.tab _ _ ((t n).1 p hp), fun P q z => (t n).2 P q (s.tb P q z)⟩
theorem TabsZ.nil {Z : Sh} {H : Hp} : TabsZ [] Z H := fun n => absurd rfl n
/-- where a text stands: the program's facts, the names by slot, the scope, the room, what may be let out -/
structure Cf where
  P : Program
  w : World
  K : PySem.W.Frag
  mg : Str → Option Value
  base : Heap
  N : List Str
  sc : Scope
  k : Nat
  W : XD → Prop
  /-- the names that may be stored here -/
  st : Str → Bool := fun _ => true
  /-- within an except suite: the exception, its class, its dict -/
  hot : Option (Addr × Addr × Addr) := none
  /-- the tables of codes -/
  lam : Option Lm := none
def RX (K : PySem.W.Frag) (Z : Sh) (H : Hp) (cls : Value) (d : Option Addr) (x : XD) : Prop :=
  cls = .ref x.C ∧ ∃ dd vs, d = some dd ∧ Z dd = some (fz (.xd (x.ns.zip vs))) ∧ x.ns.length = vs.length ∧ Rps K Z vs x.ds
def liftX (K : PySem.W.Frag) (W : XD → Prop) (H0 : Hp) (Z0 : Sh) : WX := fun cls d _ H => ∃ Z x, Stp H0 Z0 H Z ∧ RX K Z H cls d x ∧ W x
structure CtxOk (c : Cf) (H0 : Hp) (Z0 : Sh) (X : Cx) : Prop where
  P : X.prog = c.P
  w : X.w = c.w
  K : X.K = c.K
  mg : X.mg = c.mg
  base : X.base = c.base
  N : X.N = c.N
  sc : X.env.scope = c.sc
  calm : c.hot = none → X.calm = true
  su : ∀ a C dd, c.hot = some (a, C, dd) → ∃ (X0 : Cx) (oe : Obj) (pn : List (Addr × Obj)), X = X0.suite a ((a, oe) :: pn) ∧ Zc (.ref C) (some dd) oe ∧ ∃ vs, oe.data = .fields vs
  lm : ∀ L, c.lam = some L → (X.A.guards = some [] ∧ X.A.units + 100 < cLine) ∧ TabsZ L.T Z0 H0 ∧ ∀ c0 P q, L.me = some (c0, P, q) → X.env.code = .ref c0 ∧ X.env.qual ++ "<lambda>" = q ∧ LamX.TabB X.base X.mg c0 P ∧ (P, q) ∈ L.T
  room : c.hot = none → Room c.k X.A
  nd : c.N.Nodup
  fn : ∀ x, c.st x = true → Loc c.sc x → X.fn x = true ∨ c.sc.names.lookup x = some .local
  tk : Takes X (liftX c.K c.W H0 Z0)

/-! ### the judgements -/
def oPost (K : PySem.W.Frag) (H : Hp) (Z : Sh) (Q : D → Prop) : VK := fun v H' => ∃ Z' d, Stp H Z H' Z' ∧ Rr K H H' Z' v d ∧ Q d
def ePost (K : PySem.W.Frag) (H : Hp) (Z : Sh) (Q : D → Prop) : VK := fun v H' => ∃ Z' d, Stp H Z H' Z' ∧ Rp K Z' v d ∧ Q d
def aPost (K : PySem.W.Frag) (H : Hp) (Z : Sh) (Q : List D → Prop) : List V → Hp → Prop := fun vs H' => ∃ Z' ds, Stp H Z H' Z' ∧ Rps K Z' vs ds ∧ Q ds
def tPost (H : Hp) (Z : Sh) (Q : Bool → Prop) : Bool → Hp → Prop := fun b H' => ∃ Z', Stp H Z H' Z' ∧ Q b
/-- an expression: its result may be a new list of one's own -/
def WO (c : Cf) (e : Expr) (Q : D → Prop) (Δ : Dl) : Prop := ∀ X H0 Z0, CtxOk c H0 Z0 X → ∀ σ H Z, Slots c.K H0 Z0 σ H Z Δ → We X e σ H (oPost c.K H Z Q)
/-- an expression: its result is frozen -/
def WE (c : Cf) (e : Expr) (Q : D → Prop) (Δ : Dl) : Prop := ∀ X H0 Z0, CtxOk c H0 Z0 X → ∀ σ H Z, Slots c.K H0 Z0 σ H Z Δ → We X e σ H (ePost c.K H Z Q)
def WA (c : Cf) (es : List Expr) (Q : List D → Prop) (Δ : Dl) : Prop := ∀ X H0 Z0, CtxOk c H0 Z0 X → ∀ σ H Z, Slots c.K H0 Z0 σ H Z Δ → Wa X es σ H (aPost c.K H Z Q)
def WT (c : Cf) (e : Expr) (Q : Bool → Prop) (Δ : Dl) : Prop := ∀ X H0 Z0, CtxOk c H0 Z0 X → ∀ σ H Z, Slots c.K H0 Z0 σ H Z Δ → Wt X e σ H (tPost H Z Q)
def WW (c : Cf) (e : Expr) (Q : Bool → Prop) (Δ : Dl) : Prop := ∀ X H0 Z0, CtxOk c H0 Z0 X → ∀ σ H Z, Slots c.K H0 Z0 σ H Z Δ → Ww X e σ H (tPost H Z Q)

section
variable {c : Cf} {e a b : Expr} {es : List Expr} {Q : D → Prop} {Δ : Dl} {pos : Pos}
/-- a result of one's own may be let go -/
theorem Rr.freeze {K : PySem.W.Frag} {H H' : Hp} {Z Z' : Sh} {v : V} {d : D} (s : Stp H Z H' Z') (r : Rr K H H' Z' v d) : ∃ Z2, Le Z' Z2 ∧ Stp H Z H' Z2 ∧ Rp K Z2 v d.frz := by
  rcases r with r | ⟨l, o, rfl, h0, zl, hl, r⟩
  · refine ⟨Z', Le.refl _, s, ?_⟩
    have e : d.frz = d := by cases r <;> rfl
    rw [e]; exact r
  · exact ⟨_, Le.shr zl, s.share (φ := fz o) h0 zl hl rfl (.fz r.nbo.1), (r.le (Le.shr zl)).frz shr_same⟩
theorem we_of_wo (h : WO c e (fun d => Q d.frz) Δ) : WE c e Q Δ := fun X H0 Z0 hX σ H Z hS =>
  (h X H0 Z0 hX σ H Z hS).mono fun v H' ⟨Z', d, s, r, q⟩ => by
    obtain ⟨Z2, _, s2, r2⟩ := r.freeze s
    exact ⟨Z2, _, s2, r2, q⟩
theorem wo_of_we (h : WE c e Q Δ) : WO c e Q Δ := fun X H0 Z0 hX σ H Z hS =>
  (h X H0 Z0 hX σ H Z hS).mono fun v H' ⟨Z', d, s, r, q⟩ => ⟨Z', d, s, .inl r, q⟩
theorem WO.mono {Q' : D → Prop} (h : WO c e Q Δ) (k : ∀ d, Q d → Q' d) : WO c e Q' Δ := fun X H0 Z0 hX σ H Z hS =>
  (h X H0 Z0 hX σ H Z hS).mono fun v H' ⟨Z', d, s, r, q⟩ => ⟨Z', d, s, r, k d q⟩
theorem WE.mono {Q' : D → Prop} (h : WE c e Q Δ) (k : ∀ d, Q d → Q' d) : WE c e Q' Δ := fun X H0 Z0 hX σ H Z hS =>
  (h X H0 Z0 hX σ H Z hS).mono fun v H' ⟨Z', d, s, r, q⟩ => ⟨Z', d, s, r, k d q⟩
theorem WT.mono {Q Q' : Bool → Prop} (h : WT c e Q Δ) (k : ∀ d, Q d → Q' d) : WT c e Q' Δ := fun X H0 Z0 hX σ H Z hS =>
  (h X H0 Z0 hX σ H Z hS).mono fun v H' ⟨Z', s, q⟩ => ⟨Z', s, k _ q⟩
theorem WA.mono {Q Q' : List D → Prop} (h : WA c es Q Δ) (k : ∀ d, Q d → Q' d) : WA c es Q' Δ := fun X H0 Z0 hX σ H Z hS =>
  (h X H0 Z0 hX σ H Z hS).mono fun v H' ⟨Z', d, s, r, q⟩ => ⟨Z', d, s, r, k d q⟩
/-- one's own list in a slot is let go for a while: what comes of it is plain -/
def D.plain : D → Bool
  | .non => true | .bl _ => true | .int _ => true | .str _ => true | .ty _ => true | .adr _ => true
  | _ => false
theorem Rp.plain {K : PySem.W.Frag} {Z Z' : Sh} {v : V} {d : D} (h : d.plain = true) (r : Rp K Z v d) : Rp K Z' v d := by
  cases r <;> first | exact .non | exact .bl | exact .int | exact .str | exact .ty | exact .adr | cases h
def unshr (Z : Sh) (l : Addr) : Sh := fun a => if a = l then none else Z a
theorem unshr_sub {Z : Sh} {l a : Addr} {φ : HO → Prop} (q : unshr Z l a = some φ) : Z a = some φ := by
  unfold unshr at q
  by_cases ne : a = l
  · rw [if_pos ne] at q; cases q
  · rw [if_neg ne] at q; exact q
theorem unshr_tup {Z : Sh} {l a : Addr} {us : List V} (h : ∀ vs, Z l ≠ some (fz (.tup vs))) (z : Z a = some (fz (.tup us))) : unshr Z l a = some (fz (.tup us)) := by
  unfold unshr
  rw [if_neg (fun e => h us (by rw [← e]; exact z))]; exact z
theorem borrow {H H' : Hp} {Z Z' : Sh} {l : Addr} {ob : HO} (zl : Z l = none) (hl : H l = some ob) (nb : Nbo ob) (s : Stp H (shr Z l (fz ob)) H' Z') : Stp H Z H' (unshr Z' l) := by
  have zl' : Z' l = some (fz ob) := s.le l _ shr_same
  refine ⟨fun a φ q => ?_, ⟨fun a φ q => ?_, fun a φ vs q e => s.ok.tp a φ vs (unshr_sub q) e, fun a sp q => (s.ok.kp a sp (unshr_sub q)).imp (fun b vs z => unshr_tup (fun us z2 => nb.2.2 us (fz_inj (Option.some.inj (zl'.symm.trans z2)))) z) (fun o e _ => e)⟩, fun a o e z n => ?_, fun P q t => ?_, fun P q z => ?_, s.stays⟩
  · have ne : a ≠ l := fun z => by rw [z, zl] at q; cases q
    unfold unshr
    rw [if_neg ne]
    exact s.le a φ (by rw [shr_ne ne]; exact q)
  · unfold unshr at q
    by_cases ne : a = l
    · rw [if_pos ne] at q; cases q
    · rw [if_neg ne] at q; exact s.ok a φ q
  · by_cases ne : a = l
    · subst ne
      obtain ⟨u, hu, hf⟩ := s.ok a _ (s.le a _ shr_same)
      have hf : u = ob := hf
      rw [hl] at e; cases e
      exact ⟨by rw [hu, hf], by unfold unshr; rw [if_pos rfl]⟩
    · obtain ⟨h1, z1⟩ := s.keep a o e (by rw [shr_ne ne]; exact z) n
      exact ⟨h1, by unfold unshr; rw [if_neg ne]; exact z1⟩
  · have ne : P ≠ l := fun e => by
      obtain ⟨ps, h1⟩ := t.some
      rw [e, hl] at h1
      exact nb.1 ps (Option.some.inj h1)
    have nt : Nt (fz ob) := .fz nb.1
    obtain ⟨n1, z1, ps, h1, h2, h3⟩ := s.tab P q (t.le (Le.shr zl) (t.1.shr nt))
    refine ⟨fun a φ q => ?_, by unfold unshr; rw [if_neg ne]; exact z1, ps, h1, h2, fun pos cv e => ?_⟩
    · unfold unshr at q
      by_cases na : a = l
      · rw [if_pos na] at q; cases q
      · rw [if_neg na] at q; exact n1 a φ q
    obtain ⟨c, e1, zc⟩ := h3 pos cv e
    refine ⟨c, e1, ?_⟩
    have nc : c ≠ l := fun e => by
      rw [e, zl'] at zc
      exact nb.2.1 _ _ (fz_inj (Option.some.inj zc))
    unfold unshr; rw [if_neg nc]; exact zc
  · have nt : Nt (fz ob) := .fz nb.1
    unfold unshr at z
    by_cases na : P = l
    · rw [if_pos na] at z; cases z
    · rw [if_neg na] at z; exact (shr_tab nt (s.tb P q z)).2
theorem we_borrow (i : Nat) {d : D} (hi : Δ[i]? = some (some d)) (ho : d.own = true) (h : WE c e (fun d => d.plain = true ∧ Q d) (Δ.set i (some d.frz))) : WE c e Q Δ := fun X H0 Z0 hX σ H Z hS => by
  obtain ⟨l, o, zl, hl, hS2, ow⟩ := hS.letsO hi ho
  exact (h X H0 Z0 hX σ H _ hS2).mono fun v H' ⟨Z', d, s, r, p, q⟩ => ⟨_, d, DL.borrow zl hl ow.nbo s, r.plain p, q⟩
theorem wt_borrow {Q : Bool → Prop} (i : Nat) {d : D} (hi : Δ[i]? = some (some d)) (ho : d.own = true) (h : WT c e Q (Δ.set i (some d.frz))) : WT c e Q Δ := fun X H0 Z0 hX σ H Z hS => by
  obtain ⟨l, o, zl, hl, hS2, ow⟩ := hS.letsO hi ho
  exact (h X H0 Z0 hX σ H _ hS2).mono fun b H' ⟨Z', s, q⟩ => ⟨_, DL.borrow zl hl ow.nbo s, q⟩

/-! ### names, constants -/
theorem we_var (i : Nat) {x : Str} {d : D} (hN : c.N[i]? = some x) (hv : Vis c.sc x) (hi : Δ[i]? = some (some d)) (ho : d.own = false) (q : Q d)
    (hd : (x == ("__debug__" : Str)) = false := by decide) (hcd : (x == ("__classdict__" : Str)) = false := by decide) : WE c (.Name x pos) Q Δ := fun X H0 Z0 hX σ H Z hS => by
  obtain ⟨v, e1, r⟩ := hS.get hi ho
  exact We.of (pe_var (i := i) (by rw [hX.N]; exact hN) (by rw [hX.sc]; exact hv) hd hcd) ⟨v, e1, Z, d, .refl hS.ok, r, q⟩
theorem we_int {i j} (q : Q (.int i)) : WE c (.Constant (.int i) j pos) Q Δ := fun X H0 Z0 hX σ H Z hS => We.of pe_int ⟨Z, _, .refl hS.ok, .int, q⟩
theorem we_str {x j} (q : Q (.str x)) : WE c (.Constant (.str x) j pos) Q Δ := fun X H0 Z0 hX σ H Z hS => We.of pe_str ⟨Z, _, .refl hS.ok, .str, q⟩
theorem we_bl {b j} (q : Q (.bl b)) : WE c (.Constant (.bool b) j pos) Q Δ := fun X H0 Z0 hX σ H Z hS => We.of pe_bl ⟨Z, _, .refl hS.ok, .bl, q⟩
theorem we_non {j} (q : Q .non) : WE c (.Constant .none j pos) Q Δ := fun X H0 Z0 hX σ H Z hS => We.of pe_non ⟨Z, _, .refl hS.ok, .non, q⟩
def Glo (c : Cf) (x : Str) : Prop := c.sc.names.lookup x = some .globalImplicit
theorem CtxOk.gl {H0 Z0 X} (hX : CtxOk c H0 Z0 X) {x : Str} (h : Glo c x) : Gl X x := by
  show X.env.scope.names.lookup x = _
  rw [hX.sc]; exact h
/-- a module's constant (a text, a number) or a class -/
theorem we_glob {x : Str} {u : Value} {d : D} {v : V} (hg : Glo c x) (hm : c.mg x = some u) (r : RelV v u) (rd : ∀ Z, Rp c.K Z v d) (q : Q d) (hd : (x == ("__debug__" : Str)) = false := by decide) : WE c (.Name x pos) Q Δ := fun X H0 Z0 hX σ H Z hS =>
  We.of (pe_glob (hX.gl hg) (by rw [hX.mg]; exact hm) r hd) ⟨Z, d, .refl hS.ok, rd Z, q⟩
theorem we_cls {x : Str} {C : Addr} (hg : Glo c x) (hm : c.mg x = some (.ref C)) (q : Q (.adr C)) (hd : (x == ("__debug__" : Str)) = false := by decide) : WE c (.Name x pos) Q Δ := we_glob hg hm (v := .ref C) rfl (fun _ => .adr) q hd
theorem we_ty {x : Str} {T : String} (hg : Glo c x) (hm : c.mg x = none) (hv : bootBuiltins x = some (.type T)) (q : Q (.ty T)) (hn : x ≠ "__name__" := by decide) (hd : (x == ("__debug__" : Str)) = false := by decide) : WE c (.Name x pos) Q Δ := fun X H0 Z0 hX σ H Z hS =>
  We.of (pe_bltn (v := .ty T) (hX.gl hg) (by rw [hX.mg]; exact hm) hv rfl hn hd) ⟨Z, _, .refl hS.ok, .ty, q⟩

/-! ### arguments -/
def isStar : Expr → Bool
  | .Starred _ _ => true
  | _ => false
theorem star1 {e : Expr} {es : List Expr} {env : Env} (h : isStar e = false) : starEach (e :: es) env = (false, eval e env) :: starEach es env := by
  cases e <;> first | rfl | cases h
theorem star0 {pos : Pos} {env : Env} : ∀ {es : List Expr}, es.any isStar = false → (backTo pos (starEach es env)).any (·.1) = false
  | [], _ => rfl
  | e :: es, h => by
    rw [List.any_cons, Bool.or_eq_false_iff] at h
    rw [star1 h.1]
    show ((false : Bool) || (backTo pos (starEach es env)).any (·.1)) = false
    rw [star0 h.2]; rfl
theorem wa_nil {Q : List D → Prop} (q : Q []) : WA c [] Q Δ := fun X H0 Z0 hX σ H Z hS => Wa.of pa_nil ⟨Z, [], .refl hS.ok, .nil, q⟩
theorem wa_cons {Q : List D → Prop} (h : WE c e (fun d => WA c es (fun ds => Q (d :: ds)) Δ) Δ) (hs : isStar e = false := by rfl) : WA c (e :: es) Q Δ := fun X H0 Z0 hX σ H Z hS => by
  refine Wa.of (pa_cons pe_we pa_we (star1 hs)) ?_
  refine (h X H0 Z0 hX σ H Z hS).mono fun v H1 ⟨Z1, d, s1, r1, q1⟩ => ?_
  refine (q1 X H0 Z0 hX σ H1 Z1 (hS.step s1)).mono fun vs H2 ⟨Z2, ds, s2, r2, q2⟩ => ?_
  exact ⟨Z2, d :: ds, s1.trans s2, .cons (r1.le s2.le) r2, q2⟩
theorem Rps.size {K : PySem.W.Frag} {Z : Sh} {vs : List V} {ds : List D} (r : Rps K Z vs ds) (h : ds.length ≤ sizeLine) : vs.length ≤ sizeLine := by rw [r.length]; exact h
theorem wo_tup {x1} (h : WA c es (fun ds => ds.length ≤ sizeLine ∧ Q (.tup ds)) Δ) : WO c (.Tuple es x1 pos) Q Δ := fun X H0 Z0 hX σ H Z hS => by
  refine We.of (pe_tup pa_we) ((h X H0 Z0 hX σ H Z hS).mono fun vs H1 ⟨Z1, ds, s1, r1, hl, q1⟩ => ⟨r1.size hl, fun p hp => ?_⟩)
  have s2 : Stp H1 Z1 (upd H1 p (.tup vs)) (shr Z1 p (fz (.tup vs))) := .newS s1.ok hp rfl
  exact ⟨_, .tup ds, s1.trans s2, .inl (.tup shr_same (r1.le s2.le)), q1⟩
theorem we_tup {x1} (h : WA c es (fun ds => ds.length ≤ sizeLine ∧ Q (.tup ds)) Δ) : WE c (.Tuple es x1 pos) Q Δ := we_of_wo (wo_tup h)
theorem wo_lst (h : WA c es (fun ds => ds.length ≤ sizeLine ∧ Q (.ol ds)) Δ) : WO c (.List es pos) Q Δ := fun X H0 Z0 hX σ H Z hS => by
  refine We.of (pe_lst pa_we) ((h X H0 Z0 hX σ H Z hS).mono fun vs H1 ⟨Z1, ds, s1, r1, hl, q1⟩ => ⟨r1.size hl, fun p hp => ?_⟩)
  have s2 : Stp H1 Z1 (upd H1 p (.lst vs)) Z1 := .new s1.ok hp
  exact ⟨_, .ol ds, s1.trans s2, .inr ⟨p, _, rfl, s1.free hS.ok hp, s1.ok.none hp, upd_same, .lst r1⟩, q1⟩
theorem we_lst (h : WA c es (fun ds => ds.length ≤ sizeLine ∧ Q (.lst ds)) Δ) : WE c (.List es pos) Q Δ := we_of_wo (wo_lst h)

/-! ### operators by values -/
def VO (c : Cf) (f : Value → Value → Sem Value) (x y : D) (Q : D → Prop) : Prop :=
  ∀ X H0 Z0, CtxOk c H0 Z0 X → ∀ H Z v u, OkZ H Z → Rp c.K Z v x → Rp c.K Z u y → ∃ r : R2, OpR X f r ∧ r v u H (oPost c.K H Z Q)
def VU (c : Cf) (f : Value → Sem Value) (x : D) (Q : D → Prop) : Prop :=
  ∀ X H0 Z0, CtxOk c H0 Z0 X → ∀ H Z v, OkZ H Z → Rp c.K Z v x → ∃ r : V → Hp → VK → Prop, UnR X f r ∧ r v H (oPost c.K H Z Q)
def VC (c : Cf) (f : Value) (xs : List D) (Q : D → Prop) : Prop :=
  ∀ X H0 Z0, CtxOk c H0 Z0 X → ∀ H Z vs, OkZ H Z → Rps c.K Z vs xs → ∃ r : List V → Hp → VK → Prop, CallR X f r ∧ r vs H (oPost c.K H Z Q)
def VI (c : Cf) (x y : D) (Q : D → Prop) : Prop :=
  ∀ X H0 Z0, CtxOk c H0 Z0 X → ∀ H Z v u, OkZ H Z → Rp c.K Z v x → Rp c.K Z u y → ∃ r : R2, IxR X r ∧ r v u H (oPost c.K H Z Q)
def VM (c : Cf) (id : String) (x : D) (ys : List D) (Q : D → Prop) : Prop :=
  ∀ X H0 Z0, CtxOk c H0 Z0 X → ∀ H Z v vs, OkZ H Z → Rp c.K Z v x → Rps c.K Z vs ys → ∃ r : V → List V → Hp → VK → Prop, MtR X id r ∧ r v vs H (oPost c.K H Z Q)
theorem op_any {X : Cx} {f : Value → Value → Sem Value} : OpR X f (fun x y H Q => ∃ r : R2, OpR X f r ∧ r x y H Q) := fun pins s σ H x y v u Q I rx ry ⟨r, h, q⟩ => h pins s σ H x y v u Q I rx ry q
theorem un_any {X : Cx} {f : Value → Sem Value} : UnR X f (fun x H Q => ∃ r : V → Hp → VK → Prop, UnR X f r ∧ r x H Q) := fun pins s σ H x v Q I rx ⟨r, h, q⟩ => h pins s σ H x v Q I rx q
theorem call_any {X : Cx} {f : Value} : CallR X f (fun xs H Q => ∃ r : List V → Hp → VK → Prop, CallR X f r ∧ r xs H Q) := fun pins s σ H xs us Q I rx ⟨r, h, q⟩ => h pins s σ H xs us Q I rx q
theorem ix_any {X : Cx} : IxR X (fun x y H Q => ∃ r : R2, IxR X r ∧ r x y H Q) := fun a b pins s σ H x y v u Q I rx ry ⟨r, h, q⟩ hs => h a b pins s σ H x y v u Q I rx ry q hs
theorem mt_any {X : Cx} {id : String} : MtR X id (fun x ys H Q => ∃ r : V → List V → Hp → VK → Prop, MtR X id r ∧ r x ys H Q) := fun pins s σ H x ys v us Q I rx ry ⟨r, h, q⟩ => h pins s σ H x ys v us Q I rx ry q
theorem oPost.mono {K : PySem.W.Frag} {H H1 H' : Hp} {Z Z1 : Sh} {Q : D → Prop} {v : V} (ok : OkZ H Z) (s : Stp H Z H1 Z1) (h : oPost K H1 Z1 Q v H') : oPost K H Z Q v H' := by
  obtain ⟨Z', d, s', r, q⟩ := h
  refine ⟨Z', d, s.trans s', ?_, q⟩
  rcases r with r | ⟨l, o, e2, h0, zl, hl, r⟩
  · exact .inl r
  · exact .inr ⟨l, o, e2, s.freeF h0, zl, hl, r⟩
theorem wo_bin {op : Operator} (h : WE c a (fun x => WE c b (fun y => VO c (binaryOp op) x y Q) Δ) Δ) : WO c (.BinOp a op b pos) Q Δ := fun X H0 Z0 hX σ H Z hS => by
  refine We.of (pe_op op_any pe_we pe_we) ?_
  refine (h X H0 Z0 hX σ H Z hS).mono fun v H1 ⟨Z1, x, s1, r1, q1⟩ => ?_
  refine (q1 X H0 Z0 hX σ H1 Z1 (hS.step s1)).mono fun u H2 ⟨Z2, y, s2, r2, q2⟩ => ?_
  obtain ⟨r, hr, q⟩ := q2 X H0 Z0 hX H2 Z2 v u s2.ok (r1.le s2.le) r2
  exact ⟨fun x y H Q0 => x = v ∧ y = u ∧ H = H2 ∧ r v u H2 (oPost c.K H2 Z2 Q) ∧ ∀ z H', oPost c.K H2 Z2 Q z H' → Q0 z H',
    fun pins s σ H x y vv uu Q0 I rx ry ⟨ex, ey, eH, k, m⟩ => by
      subst ex; subst ey; subst eH
      exact thn (hr pins s σ _ _ _ vv uu _ I rx ry k) fun _ _ ⟨z, H', I', rz, qz⟩ => ⟨z, H', I', rz, m z H' qz⟩, rfl, rfl, rfl, q, fun z H' p => p.mono hS.ok (s1.trans s2)⟩
theorem we_bin {op : Operator} (h : WE c a (fun x => WE c b (fun y => VO c (binaryOp op) x y (fun d => Q d.frz)) Δ) Δ) : WE c (.BinOp a op b pos) Q Δ := we_of_wo (wo_bin h)
theorem we_cmp {op : CmpOp} (h : WE c a (fun x => WE c b (fun y => VO c (compareOp op) x y (fun d => Q d.frz)) Δ) Δ) (hm : behindInMarks op b = false := by rfl) : WE c (.Compare a [op] [b] pos) Q Δ := we_of_wo fun X H0 Z0 hX σ H Z hS => by
  refine We.of (pe_cmpR op_any pe_we pe_we hm) ?_
  refine (h X H0 Z0 hX σ H Z hS).mono fun v H1 ⟨Z1, x, s1, r1, q1⟩ => ?_
  refine (q1 X H0 Z0 hX σ H1 Z1 (hS.step s1)).mono fun u H2 ⟨Z2, y, s2, r2, q2⟩ => ?_
  obtain ⟨r, hr, q⟩ := q2 X H0 Z0 hX H2 Z2 v u s2.ok (r1.le s2.le) r2
  exact ⟨fun x y H Q0 => x = v ∧ y = u ∧ H = H2 ∧ r v u H2 (oPost c.K H2 Z2 (fun d => Q d.frz)) ∧ ∀ z H', oPost c.K H2 Z2 (fun d => Q d.frz) z H' → Q0 z H',
    fun pins s σ H x y vv uu Q0 I rx ry ⟨ex, ey, eH, k, m⟩ => by
      subst ex; subst ey; subst eH
      exact thn (hr pins s σ _ _ _ vv uu _ I rx ry k) fun _ _ ⟨z, H', I', rz, qz⟩ => ⟨z, H', I', rz, m z H' qz⟩, rfl, rfl, rfl, q, fun z H' p => p.mono hS.ok (s1.trans s2)⟩
end
end DL
end
section
set_option Elab.async false
set_option linter.all false
set_option maxRecDepth 100000
set_option maxHeartbeats 4000000
/-! DL2: more expressions; values; calls; subscripts. -/
namespace DL
open PySem PySem.Spec PyProof.Rows L2
section
variable {c : Cf} {e a b : Expr} {es : List Expr} {Q : D → Prop} {Δ : Dl} {pos : Pos}

/-! ### reading frozen lists and tuples -/
theorem Rp.lst_inv {K : PySem.W.Frag} {Z : Sh} {H : Hp} {v : V} {ds : List D} (ok : OkZ H Z) (r : Rp K Z v (.lst ds)) : ∃ p vs, v = .ref p ∧ H p = some (.lst vs) ∧ Z p = some (fz (.lst vs)) ∧ Rps K Z vs ds := by
  cases r with
  | lst z r =>
    obtain ⟨u, hu, hf⟩ := ok _ _ z
    have hf : u = _ := hf
    subst hf
    exact ⟨_, _, rfl, hu, z, r⟩
theorem Rp.tup_inv {K : PySem.W.Frag} {Z : Sh} {H : Hp} {v : V} {ds : List D} (ok : OkZ H Z) (r : Rp K Z v (.tup ds)) : ∃ p vs, v = .ref p ∧ H p = some (.tup vs) ∧ Z p = some (fz (.tup vs)) ∧ Rps K Z vs ds := by
  cases r with
  | tup z r =>
    obtain ⟨u, hu, hf⟩ := ok _ _ z
    have hf : u = _ := hf
    subst hf
    exact ⟨_, _, rfl, hu, z, r⟩
theorem Rp.ins_inv {K : PySem.W.Frag} {Z : Sh} {H : Hp} {v : V} {C : Addr} {ns : List Str} {ds : List D} (ok : OkZ H Z) (r : Rp K Z v (.ins C ns ds)) : ∃ p dx vs, v = .ref p ∧ H p = some (.ins C dx (ns.zip vs)) ∧ ns.length = vs.length ∧ Rps K Z vs ds := by
  cases r with
  | ins z e r =>
    obtain ⟨u, hu, hf⟩ := ok _ _ z
    have hf : u = _ := hf
    subst hf
    exact ⟨_, _, _, rfl, hu, e, r⟩
theorem opost {K : PySem.W.Frag} {H : Hp} {Z : Sh} {v : V} {d : D} (ok : OkZ H Z) (r : Rp K Z v d) (q : Q d) : oPost K H Z Q v H := ⟨Z, d, .refl ok, .inl r, q⟩
theorem opost_newT {K : PySem.W.Frag} {H : Hp} {Z : Sh} {p : Addr} {vs : List V} {ds : List D} (ok : OkZ H Z) (hp : H p = none) (r : Rps K Z vs ds) (q : Q (.tup ds)) : oPost K H Z Q (.ref p) (upd H p (.tup vs)) :=
  ⟨_, _, .newS (φ := fz (.tup vs)) ok hp rfl, .inl (.tup shr_same (r.le (Le.shr (ok.none hp)))), q⟩
theorem opost_newL {K : PySem.W.Frag} {H : Hp} {Z : Sh} {p : Addr} {vs : List V} {ds : List D} (ok : OkZ H Z) (hp : H p = none) (r : Rps K Z vs ds) (q : Q (.ol ds)) : oPost K H Z Q (.ref p) (upd H p (.lst vs)) :=
  ⟨Z, _, .new ok hp, .inr ⟨p, _, rfl, .of hp, ok.none hp, upd_same, .lst r⟩, q⟩

/-! ### ints -/
section
variable {i j : Int}
theorem vo_i {op : Value → Value → Sem Value} {C : Int → Int → Prop} {g : Int → Int → Int} (ho : ∀ X, OpR X op (rI C fun i j => .int (g i j))) (hc : C i j) (q : Q (.int (g i j))) : VO c op (.int i) (.int j) Q := fun X _ _ _ H Z v u ok r1 r2 => by
  cases r1; cases r2
  exact ⟨_, ho X, i, j, rfl, rfl, hc, opost ok .int q⟩
theorem vo_i0 {op : Value → Value → Sem Value} {g : Int → Int → Int} (ho : ∀ X, OpR X op (rI0 fun i j => .int (g i j))) (q : Q (.int (g i j))) : VO c op (.int i) (.int j) Q := fun X _ _ _ H Z v u ok r1 r2 => by
  cases r1; cases r2
  exact ⟨_, ho X, i, j, rfl, rfl, opost ok .int q⟩
theorem vo_b0 {op : Value → Value → Sem Value} {g : Int → Int → Bool} (ho : ∀ X, OpR X op (rI0 fun i j => .bl (g i j))) (q : Q (.bl (g i j))) : VO c op (.int i) (.int j) Q := fun X _ _ _ H Z v u ok r1 r2 => by
  cases r1; cases r2
  exact ⟨_, ho X, i, j, rfl, rfl, opost ok .bl q⟩
theorem vo_add (q : Q (.int (i + j))) : VO c (binaryOp .Add) (.int i) (.int j) Q := vo_i0 (g := fun i j => i + j) (fun _ => op_add) q
theorem vo_sub (q : Q (.int (i - j))) : VO c (binaryOp .Sub) (.int i) (.int j) Q := vo_i0 (g := fun i j => i - j) (fun _ => op_sub) q
theorem vo_mul (hc : CMul i j) (q : Q (.int (i * j))) : VO c (binaryOp .Mult) (.int i) (.int j) Q := vo_i (g := fun i j => i * j) (fun _ => op_mul) hc q
theorem vo_mod (hc : 0 < j) (q : Q (.int (i % j))) : VO c (binaryOp .Mod) (.int i) (.int j) Q := vo_i (C := fun _ j => 0 < j) (g := fun i j => i % j) (fun _ => op_mod) hc q
theorem log2_64 {j : Int} (h0 : 0 < j) (h : j < 18446744073709551616) : j.natAbs.log2 < 9000 := by
  have := (Nat.log2_lt (n := j.natAbs) (k := 64) (by omega)).mpr (by omega)
  omega
theorem vo_fdiv (hc : 0 < j ∧ j < 18446744073709551616) (q : Q (.int (i / j))) : VO c (binaryOp .FloorDiv) (.int i) (.int j) Q := vo_i (C := CDivW) (g := fun i j => i / j) (fun _ => op_fdivW) ⟨hc.1, log2_64 hc.1 hc.2⟩ q
theorem vo_pow (hc : 0 ≤ j ∧ j ≤ 1000000 ∧ i.natAbs < 2 ^ 64) (q : Q (.int (i ^ j.toNat))) : VO c (binaryOp .Pow) (.int i) (.int j) Q := vo_i (C := CPow) (g := fun i j => i ^ j.toNat) (fun _ => op_pow) hc q
theorem vo_lt (q : Q (.bl (decide (i < j)))) : VO c (compareOp .Lt) (.int i) (.int j) Q := vo_b0 (g := fun i j => decide (i < j)) (fun _ => op_lt) q
theorem vo_le (q : Q (.bl (decide (i ≤ j)))) : VO c (compareOp .LtE) (.int i) (.int j) Q := vo_b0 (g := fun i j => decide (i ≤ j)) (fun _ => op_le) q
theorem vo_gt (q : Q (.bl (decide (j < i)))) : VO c (compareOp .Gt) (.int i) (.int j) Q := vo_b0 (g := fun i j => decide (j < i)) (fun _ => op_gt) q
theorem vo_ge (q : Q (.bl (decide (j ≤ i)))) : VO c (compareOp .GtE) (.int i) (.int j) Q := vo_b0 (g := fun i j => decide (j ≤ i)) (fun _ => op_ge) q
theorem vo_eqi (q : Q (.bl (decide (i = j)))) : VO c (compareOp .Eq) (.int i) (.int j) Q := fun X _ _ _ H Z v u ok r1 r2 => by
  cases r1; cases r2
  refine ⟨_, op_eq, rfl, opost ok .bl ?_⟩
  have e : decide (V.int i = V.int j) = decide (i = j) := by
    by_cases h : i = j
    · subst h; simp
    · rw [decide_eq_false h, decide_eq_false (fun z => h (V.int.inj z))]
  rw [e]; exact q
theorem vo_nei (q : Q (.bl (!decide (i = j)))) : VO c (compareOp .NotEq) (.int i) (.int j) Q := fun X _ _ _ H Z v u ok r1 r2 => by
  cases r1; cases r2
  refine ⟨_, op_ne, rfl, opost ok .bl ?_⟩
  have e : decide (V.int i = V.int j) = decide (i = j) := by
    by_cases h : i = j
    · subst h; simp
    · rw [decide_eq_false h, decide_eq_false (fun z => h (V.int.inj z))]
  rw [e]; exact q
theorem we_neg (h : WE c a (fun x => ∃ i, x = .int i ∧ Q (.int (-i))) Δ) : WE c (.UnaryOp .USub a pos) Q Δ := fun X H0 Z0 hX σ H Z hS =>
  We.of (pe_un un_neg pe_we) ((h X H0 Z0 hX σ H Z hS).mono fun v H1 ⟨Z1, x, s1, r1, i, ex, q⟩ => by subst ex; cases r1; exact ⟨i, rfl, Z1, _, s1, .int, q⟩)
end
/-! ### texts -/
theorem vo_addS {x y : Str} (hl : x.length + y.length ≤ sizeLine) (q : Q (.str (x ++ y))) : VO c (binaryOp .Add) (.str x) (.str y) Q := fun X _ _ _ H Z v u ok r1 r2 => by
  cases r1; cases r2
  exact ⟨_, op_add_str, x, y, rfl, rfl, hl, opost ok .str q⟩
theorem vo_eqS {x y : Str} (q : Q (.bl (decide (x = y)))) : VO c (compareOp .Eq) (.str x) (.str y) Q := fun X _ _ _ H Z v u ok r1 r2 => by
  cases r1; cases r2
  refine ⟨_, op_eq, rfl, opost ok .bl ?_⟩
  have e : decide (V.str x = V.str y) = decide (x = y) := by
    by_cases h : x = y
    · subst h; simp
    · rw [decide_eq_false h, decide_eq_false (fun z => h (V.str.inj z))]
  rw [e]; exact q
theorem vo_neS {x y : Str} (q : Q (.bl (!decide (x = y)))) : VO c (compareOp .NotEq) (.str x) (.str y) Q := fun X _ _ _ H Z v u ok r1 r2 => by
  cases r1; cases r2
  refine ⟨_, op_ne, rfl, opost ok .bl ?_⟩
  have e : decide (V.str x = V.str y) = decide (x = y) := by
    by_cases h : x = y
    · subst h; simp
    · rw [decide_eq_false h, decide_eq_false (fun z => h (V.str.inj z))]
  rw [e]; exact q
/-! ### is -/
def D.isNon : D → Bool
  | .non => true
  | _ => false
theorem vo_isN {x : D} (q : Q (.bl x.isNon)) : VO c (compareOp .Is) x .non Q := fun X _ _ _ H Z v u ok r1 r2 => by
  cases r2
  refine ⟨_, op_isN, rfl, opost ok .bl ?_⟩
  have e : decide (v = V.non) = x.isNon := by cases r1 <;> rfl
  rw [e]; exact q
theorem vo_notN {x : D} (q : Q (.bl (!x.isNon))) : VO c (compareOp .IsNot) x .non Q := fun X _ _ _ H Z v u ok r1 r2 => by
  cases r2
  refine ⟨_, op_notN, rfl, opost ok .bl ?_⟩
  have e : decide (v = V.non) = x.isNon := by cases r1 <;> rfl
  rw [e]; exact q
def D.isB (k : Bool) : D → Bool
  | .bl b => b == k
  | _ => false
theorem op_isB {X : Cx} {k : Bool} : OpR X (compareOp .Is) (fun x y H Q => y = .bl k ∧ (∀ a, x = .ref a → True) ∧ Q (.bl (decide (x = .bl k))) H) := fun pins s σ H x y v u Q I rx ry ⟨ey, _, q⟩ => by
  subst ey; cases ry
  have fin : ∀ b, decide (x = .bl k) = b → EP X pins σ Q (.bool b) s := fun b hb => ⟨.bl b, H, I, rfl, by rw [← hb]; exact q⟩
  show wpAny (model X.prog X.w) X.A (do return Value.bool (← isSame v (.bool k))) (EP X pins σ Q) X.xe s
  cases x with
  | non => cases rx; exact wpAny_bind (wpAny_pure (wpAny_pure (fin _ rfl)))
  | bl b =>
    cases rx
    refine wpAny_bind (wpAny_pure (wpAny_pure (fin _ ?_)))
    cases b <;> cases k <;> rfl
  | int i => obtain ⟨t, rfl⟩ := rx; exact wpAny_bind (wpAny_pure (wpAny_pure (fin _ rfl)))
  | str i => obtain ⟨t, rfl⟩ := rx; exact wpAny_bind (wpAny_pure (wpAny_pure (fin _ rfl)))
  | byt i => obtain ⟨t, rfl⟩ := rx; exact wpAny_bind (wpAny_pure (wpAny_pure (fin _ rfl)))
  | flt i => obtain ⟨t, rfl⟩ := rx; exact wpAny_bind (wpAny_pure (wpAny_pure (fin _ rfl)))
  | ref i => cases rx; exact wpAny_bind (wpAny_pure (wpAny_pure (fin _ rfl)))
  | ty i => cases rx; exact wpAny_bind (wpAny_pure (wpAny_pure (fin _ rfl)))
theorem vo_isB {x : D} {k : Bool} (q : Q (.bl (x.isB k))) : VO c (compareOp .Is) x (.bl k) Q := fun X _ _ _ H Z v u ok r1 r2 => by
  cases r2
  refine ⟨_, op_isB (k := k), rfl, fun _ _ => trivial, opost ok .bl ?_⟩
  have e : decide (v = V.bl k) = x.isB k := by
    cases r1 <;> first | rfl | (rename_i b; cases b <;> cases k <;> rfl)
  rw [e]; exact q

/-! ### truth, tests -/
def D.truth : D → Option Bool
  | .non => some false | .bl b => some b | .int i => some (i != 0)
  | .str y => if y.length ≤ sizeLine then some ((y.length : Int) != 0) else none
  | .tup l => some (!l.isEmpty) | .lst l => some (!l.isEmpty)
  | _ => none
theorem Rps.empty {K : PySem.W.Frag} {Z : Sh} {vs : List V} {ds : List D} (r : Rps K Z vs ds) : vs.isEmpty = ds.isEmpty := by cases r <;> rfl
theorem truV {K : PySem.W.Frag} {H : Hp} {Z : Sh} {v : V} {d : D} {k : Bool} (ok : OkZ H Z) (r : Rp K Z v d) (h : d.truth = some k) : TruV K v H k := by
  cases d with
  | tup l =>
    obtain ⟨p, vs, rfl, hp, _, rr⟩ := r.tup_inv ok
    cases h
    exact .inr (.inl ⟨vs, .of hp, by rw [rr.empty]⟩)
  | lst l =>
    obtain ⟨p, vs, rfl, hp, _, rr⟩ := r.lst_inv ok
    cases h
    exact .inl ⟨vs, .of hp, by rw [rr.empty]⟩
  | non => cases r; cases h; rfl
  | bl b => cases r; cases h; rfl
  | int i => cases r; cases h; rfl
  | str y =>
    cases r
    have h : (if y.length ≤ sizeLine then some ((y.length : Int) != 0) else none) = some k := h
    by_cases hl : y.length ≤ sizeLine
    · rw [if_pos hl] at h
      injection h with h
      exact ⟨hl, h.symm⟩
    · rw [if_neg hl] at h; cases h
  | _ => cases h
theorem wt_cmp {op : CmpOp} {Q : Bool → Prop} (h : WE c a (fun x => WE c b (fun y => VO c (compareOp op) x y (fun d => ∃ k, d = .bl k ∧ Q k)) Δ) Δ) (hm : behindInMarks op b = false := by rfl) : WT c (.Compare a [op] [b] pos) Q Δ := fun X H0 Z0 hX σ H Z hS => by
  refine Wt.of (pt_cmpR op_any pe_we pe_we hm) ?_
  refine (h X H0 Z0 hX σ H Z hS).mono fun v H1 ⟨Z1, x, s1, r1, q1⟩ => ?_
  refine (q1 X H0 Z0 hX σ H1 Z1 (hS.step s1)).mono fun u H2 ⟨Z2, y, s2, r2, q2⟩ => ?_
  obtain ⟨r, hr, q⟩ := q2 X H0 Z0 hX H2 Z2 v u s2.ok (r1.le s2.le) r2
  exact ⟨fun x y H Q0 => x = v ∧ y = u ∧ H = H2 ∧ r v u H2 (oPost c.K H2 Z2 (fun d => ∃ k, d = .bl k ∧ Q k)) ∧ ∀ z H', oPost c.K H2 Z2 (fun d => ∃ k, d = .bl k ∧ Q k) z H' → Q0 z H',
    fun pins s σ H x y vv uu Q0 I rx ry ⟨ex, ey, eH, k, m⟩ => by
      subst ex; subst ey; subst eH
      exact thn (hr pins s σ _ _ _ vv uu _ I rx ry k) fun _ _ ⟨z, H', I', rz, qz⟩ => ⟨z, H', I', rz, m z H' qz⟩, rfl, rfl, rfl, q, fun z H' p => by
      obtain ⟨Z3, d, s3, r3, k, ed, qk⟩ := p
      subst ed
      rcases r3 with r3 | ⟨_, _, _, _, _, _, r3⟩
      · cases r3; exact ⟨k, rfl, Z3, (s1.trans s2).trans s3, qk⟩
      · cases r3⟩
theorem wt_val {Q : Bool → Prop} (h : WE c e (fun d => ∃ k, d = .bl k ∧ Q k) Δ) (he : ∀ env whole, isTrue e env whole = (do let v ← whole; standAt e.pos; holding [v] (truthy v)) := by intro _ _; rfl) : WT c e Q Δ := fun X H0 Z0 hX σ H Z hS =>
  Wt.of (pt_val pe_we (he X.env)) ((h X H0 Z0 hX σ H Z hS).mono fun v H1 ⟨Z1, d, s1, r1, k, ed, q⟩ => by subst ed; cases r1; exact ⟨k, rfl, Z1, s1, q⟩)
theorem wt_truth {Q : Bool → Prop} (h : WE c e (fun d => ∃ k, d.truth = some k ∧ Q k) Δ) (he : ∀ env whole, isTrue e env whole = (do let v ← whole; standAt e.pos; holding [v] (truthy v)) := by intro _ _; rfl) : WT c e Q Δ := fun X H0 Z0 hX σ H Z hS =>
  Wt.of (pt_truth pe_we (he X.env)) ((h X H0 Z0 hX σ H Z hS).mono fun v H1 ⟨Z1, d, s1, r1, k, ed, q⟩ => ⟨k, by rw [hX.K]; exact truV s1.ok r1 ed, Z1, s1, q⟩)
theorem wt_not {Q : Bool → Prop} (h : WT c a (fun k => Q (!k)) Δ) : WT c (.UnaryOp .Not a pos) Q Δ := fun X H0 Z0 hX σ H Z hS =>
  Wt.of (pt_not pt_we) ((h X H0 Z0 hX σ H Z hS).mono fun k H1 ⟨Z1, s1, q⟩ => ⟨Z1, s1, q⟩)
theorem wt_pw {Q : Bool → Prop} (h : WW c e Q Δ) : WT c e Q Δ := fun X H0 Z0 hX σ H Z hS => fun pins s I => h X H0 Z0 hX σ H Z hS _ pins s I
theorem ww_and1 {Q : Bool → Prop} (h : WT c a Q Δ) : WW c (.BoolOp .And [a] pos) Q Δ := fun X H0 Z0 hX σ H Z hS => Ww.of (pw_and1 pt_we) (h X H0 Z0 hX σ H Z hS)
theorem ww_or1 {Q : Bool → Prop} (h : WT c a Q Δ) : WW c (.BoolOp .Or [a] pos) Q Δ := fun X H0 Z0 hX σ H Z hS => Ww.of (pw_or1 pt_we) (h X H0 Z0 hX σ H Z hS)
theorem ww_and {rest : List Expr} {Q : Bool → Prop} (h : WT c a (fun k => if k = true then WW c (.BoolOp .And (b :: rest) pos) Q Δ else Q false) Δ) : WW c (.BoolOp .And (a :: b :: rest) pos) Q Δ := fun X H0 Z0 hX σ H Z hS => by
  refine Ww.of (pw_and pt_we pw_we) ((h X H0 Z0 hX σ H Z hS).mono fun k H1 ⟨Z1, s1, q⟩ => ?_)
  cases k with
  | true =>
    rw [if_pos rfl] at q ⊢
    exact (q X H0 Z0 hX σ H1 Z1 (hS.step s1)).mono fun _ H2 ⟨Z2, s2, q2⟩ => ⟨Z2, s1.trans s2, q2⟩
  | false =>
    rw [if_neg Bool.false_ne_true] at q ⊢
    exact ⟨Z1, s1, q⟩
theorem ww_or {rest : List Expr} {Q : Bool → Prop} (h : WT c a (fun k => if k = true then Q true else WW c (.BoolOp .Or (b :: rest) pos) Q Δ) Δ) : WW c (.BoolOp .Or (a :: b :: rest) pos) Q Δ := fun X H0 Z0 hX σ H Z hS => by
  refine Ww.of (pw_or pt_we pw_we) ((h X H0 Z0 hX σ H Z hS).mono fun k H1 ⟨Z1, s1, q⟩ => ?_)
  cases k with
  | true =>
    rw [if_pos rfl] at q ⊢
    exact ⟨Z1, s1, q⟩
  | false =>
    rw [if_neg Bool.false_ne_true] at q ⊢
    exact (q X H0 Z0 hX σ H1 Z1 (hS.step s1)).mono fun _ H2 ⟨Z2, s2, q2⟩ => ⟨Z2, s1.trans s2, q2⟩
/-- and, or of any values, by truth; the last as it is -/
theorem we_one {op} (h : WE c a Q Δ) : WE c (.BoolOp op [a] pos) Q Δ := fun X H0 Z0 hX σ H Z hS => We.of (pe_one pe_we) (h X H0 Z0 hX σ H Z hS)
theorem we_and {rest : List Expr} (h : WE c a (fun d => ∃ k, d.truth = some k ∧ if k = true then WE c (.BoolOp .And (b :: rest) pos) Q Δ else Q d) Δ) : WE c (.BoolOp .And (a :: b :: rest) pos) Q Δ := fun X H0 Z0 hX σ H Z hS => by
  refine We.of (pe_andT pe_we pe_we) ((h X H0 Z0 hX σ H Z hS).mono fun v H1 ⟨Z1, d, s1, r1, k, ed, q⟩ => ⟨k, by rw [hX.K]; exact truV s1.ok r1 ed, ?_⟩)
  cases k with
  | true =>
    rw [if_pos rfl] at q ⊢
    exact (q X H0 Z0 hX σ H1 Z1 (hS.step s1)).mono fun _ H2 ⟨Z2, d2, s2, r2, q2⟩ => ⟨Z2, d2, s1.trans s2, r2, q2⟩
  | false =>
    rw [if_neg Bool.false_ne_true] at q ⊢
    exact ⟨Z1, d, s1, r1, q⟩
theorem we_or {rest : List Expr} (h : WE c a (fun d => ∃ k, d.truth = some k ∧ if k = true then Q d else WE c (.BoolOp .Or (b :: rest) pos) Q Δ) Δ) : WE c (.BoolOp .Or (a :: b :: rest) pos) Q Δ := fun X H0 Z0 hX σ H Z hS => by
  refine We.of (pe_orT pe_we pe_we) ((h X H0 Z0 hX σ H Z hS).mono fun v H1 ⟨Z1, d, s1, r1, k, ed, q⟩ => ⟨k, by rw [hX.K]; exact truV s1.ok r1 ed, ?_⟩)
  cases k with
  | true =>
    rw [if_pos rfl] at q ⊢
    exact ⟨Z1, d, s1, r1, q⟩
  | false =>
    rw [if_neg Bool.false_ne_true] at q ⊢
    exact (q X H0 Z0 hX σ H1 Z1 (hS.step s1)).mono fun _ H2 ⟨Z2, d2, s2, r2, q2⟩ => ⟨Z2, d2, s1.trans s2, r2, q2⟩
theorem we_not (h : WE c a (fun d => ∃ k, d.truth = some k ∧ Q (.bl (!k))) Δ) : WE c (.UnaryOp .Not a pos) Q Δ := fun X H0 Z0 hX σ H Z hS =>
  We.of (pe_notT pe_we) ((h X H0 Z0 hX σ H Z hS).mono fun v H1 ⟨Z1, d, s1, r1, k, ed, q⟩ => ⟨k, by rw [hX.K]; exact truV s1.ok r1 ed, Z1, _, s1, .bl, q⟩)
theorem wo_if {t : Expr} (h : WT c t (fun k => if k = true then WO c a Q Δ else WO c b Q Δ) Δ) : WO c (.IfExp t a b pos) Q Δ := fun X H0 Z0 hX σ H Z hS => by
  refine We.of (pe_ifExp pt_we pe_we pe_we) ((h X H0 Z0 hX σ H Z hS).mono fun k H1 ⟨Z1, s1, q⟩ => ?_)
  cases k with
  | true =>
    rw [if_pos rfl] at q ⊢
    exact (q X H0 Z0 hX σ H1 Z1 (hS.step s1)).mono fun _ H2 p => p.mono hS.ok s1
  | false =>
    rw [if_neg Bool.false_ne_true] at q ⊢
    exact (q X H0 Z0 hX σ H1 Z1 (hS.step s1)).mono fun _ H2 p => p.mono hS.ok s1
theorem we_if {t : Expr} (h : WT c t (fun k => if k = true then WE c a Q Δ else WE c b Q Δ) Δ) : WE c (.IfExp t a b pos) Q Δ := fun X H0 Z0 hX σ H Z hS => by
  refine We.of (pe_ifExp pt_we pe_we pe_we) ((h X H0 Z0 hX σ H Z hS).mono fun k H1 ⟨Z1, s1, q⟩ => ?_)
  cases k with
  | true =>
    rw [if_pos rfl] at q ⊢
    exact (q X H0 Z0 hX σ H1 Z1 (hS.step s1)).mono fun _ H2 ⟨Z2, d2, s2, r2, q2⟩ => ⟨Z2, d2, s1.trans s2, r2, q2⟩
  | false =>
    rw [if_neg Bool.false_ne_true] at q ⊢
    exact (q X H0 Z0 hX σ H1 Z1 (hS.step s1)).mono fun _ H2 ⟨Z2, d2, s2, r2, q2⟩ => ⟨Z2, d2, s1.trans s2, r2, q2⟩

/-! ### subscripts -/
theorem wo_ix (h : WE c a (fun x => WE c b (fun y => VI c x y Q) Δ) Δ) (hs : PlainIx b := by exact fun _ _ => rfl) : WO c (.Subscript a b pos) Q Δ := fun X H0 Z0 hX σ H Z hS => by
  refine We.of (pe_ix ix_any pe_we pe_we hs) ?_
  refine (h X H0 Z0 hX σ H Z hS).mono fun v H1 ⟨Z1, x, s1, r1, q1⟩ => ?_
  refine (q1 X H0 Z0 hX σ H1 Z1 (hS.step s1)).mono fun u H2 ⟨Z2, y, s2, r2, q2⟩ => ?_
  obtain ⟨r, hr, q⟩ := q2 X H0 Z0 hX H2 Z2 v u s2.ok (r1.le s2.le) r2
  exact ⟨fun x y H Q0 => x = v ∧ y = u ∧ H = H2 ∧ r v u H2 (oPost c.K H2 Z2 Q) ∧ ∀ z H', oPost c.K H2 Z2 Q z H' → Q0 z H',
    fun aa bb pins s σ H x y vv uu Q0 I rx ry ⟨ex, ey, eH, k, m⟩ hh => by
      subst ex; subst ey; subst eH
      exact thn (hr aa bb pins s σ _ _ _ vv uu _ I rx ry k hh) fun _ _ ⟨z, H', I', rz, qz⟩ => ⟨z, H', I', rz, m z H' qz⟩, rfl, rfl, rfl, q, fun z H' p => p.mono hS.ok (s1.trans s2)⟩
theorem we_ix (h : WE c a (fun x => WE c b (fun y => VI c x y (fun d => Q d.frz)) Δ) Δ) (hs : PlainIx b := by exact fun _ _ => rfl) : WE c (.Subscript a b pos) Q Δ := we_of_wo (wo_ix h hs)
theorem atI_rps {K : PySem.W.Frag} {Z : Sh} {vs : List V} {ds : List D} {i : Int} {d : D} (r : Rps K Z vs ds) (h : atI ds i = some d) : ∃ v, atI vs i = some v ∧ Rp K Z v d := by
  unfold atI at h ⊢
  rw [r.length]
  cases e : ixN ds.length i with
  | none => rw [e] at h; cases h
  | some j => rw [e] at h; exact r.get h
theorem vi_lst {ds : List D} {i : Int} {d : D} (h : atI ds i = some d) (q : Q d) : VI c (.lst ds) (.int i) Q := fun X _ _ hX H Z v u ok r1 r2 => by
  cases r2
  obtain ⟨p, vs, rfl, hp, _, r⟩ := r1.lst_inv ok
  obtain ⟨w, e, rw'⟩ := atI_rps r h
  exact ⟨_, ix_list, p, vs, i, w, rfl, rfl, .of hp, e, opost ok rw' q⟩
theorem Rp.lsA_lst {K : PySem.W.Frag} {Z : Sh} {v : V} {a : Addr} {ds : List D} (r : Rp K Z v (.lsA a ds)) : Rp K Z v (.lst ds) := by
  cases r with
  | lsA z r => exact .lst z r
theorem vi_lsA {q : Addr} {ds : List D} {i : Int} {d : D} (h : atI ds i = some d) (qq : Q d) : VI c (.lsA q ds) (.int i) Q := fun X H0 Z0 hX H Z v u ok r1 r2 => vi_lst h qq X H0 Z0 hX H Z v u ok r1.lsA_lst r2
theorem vi_tup {ds : List D} {i : Int} {d : D} (h : atI ds i = some d) (q : Q d) : VI c (.tup ds) (.int i) Q := fun X _ _ hX H Z v u ok r1 r2 => by
  cases r2
  obtain ⟨p, vs, rfl, hp, _, r⟩ := r1.tup_inv ok
  obtain ⟨w, e, rw'⟩ := atI_rps r h
  exact ⟨_, ix_tup, p, vs, i, w, rfl, rfl, .of hp, e, opost ok rw' q⟩
theorem vi_str {x : Str} {i : Int} {k : Nat} (hl : x.length ≤ sizeLine) (h : atI x.cps.toList i = some k) (q : Q (.str ⟨#[k]⟩)) : VI c (.str x) (.int i) Q := fun X _ _ hX H Z v u ok r1 r2 => by
  cases r1; cases r2
  exact ⟨_, ix_str, x, i, k, rfl, rfl, hl, h, opost ok .str q⟩

/-! ### fields of a frozen instance -/
theorem we_fld {f : Str} (h : WE c e (fun x => ∃ C ns ds d, x = .ins C ns ds ∧ Cls c.K C ∧ NoAttr c.K C f ∧ (ns.zip ds).lookup f = some d ∧ Q d) Δ) (hb : ∀ env w, attributeBase e f env w = w := by intro _ _; rfl) : WE c (.Attribute e f pos) Q Δ := fun X H0 Z0 hX σ H Z hS => by
  refine We.of (pe_fld pe_we (hb _ _)) ((h X H0 Z0 hX σ H Z hS).mono fun v H1 ⟨Z1, x, s1, r1, C, ns, ds, d, ex, hc, hn, hl, q⟩ => ?_)
  subst ex
  obtain ⟨p, dx, vs, rfl, hp, el, rr⟩ := r1.ins_inv s1.ok
  obtain ⟨w, hw, rw'⟩ := rr.lookup hl
  rw [hX.K]
  exact ⟨p, C, dx, _, w, rfl, hp, hc, hn, hw, Z1, d, s1, rw', q⟩

/-! ### calls of built-ins by name -/
theorem wo_callB {x : Str} {p : Pos} {id : String} (hg : Glo c x) (hm : c.mg x = none) (hv : bootBuiltins x = some (.builtin id)) (h : WA c (e :: es) (fun ds => VC c (.builtin id) ds Q) Δ) (hs : (e :: es).any isStar = false := by rfl)
    (hn : x ≠ "__name__" := by decide) (hdb : (x == ("__debug__" : Str)) = false := by decide) : WO c (.Call (.Name x p) (e :: es) [] pos) Q Δ := fun X H0 Z0 hX σ H Z hS => by
  rw [List.any_cons, Bool.or_eq_false_iff] at hs
  refine We.of (pe_callB call_any (hX.gl hg) (by rw [hX.mg]; exact hm) hv pa_we hn hdb (star1 hs.1) (star0 hs.2)) ?_
  refine (h X H0 Z0 hX σ H Z hS).mono fun vs H1 ⟨Z1, ds, s1, r1, q1⟩ => ?_
  obtain ⟨r, hr, q⟩ := q1 X H0 Z0 hX H1 Z1 vs s1.ok r1
  exact ⟨fun xs H Q0 => xs = vs ∧ H = H1 ∧ r vs H1 (oPost c.K H1 Z1 Q) ∧ ∀ z H', oPost c.K H1 Z1 Q z H' → Q0 z H',
    fun pins s σ H xs us Q0 I rx ⟨ex, eH, k, m⟩ => by
      subst ex; subst eH
      exact thn (hr pins s σ _ _ us _ I rx k) fun _ _ ⟨z, H', I', rz, qz⟩ => ⟨z, H', I', rz, m z H' qz⟩, rfl, rfl, q, fun z H' p => p.mono hS.ok s1⟩
theorem wo_callTy {x : Str} {p : Pos} {T : String} (hg : Glo c x) (hm : c.mg x = none) (hv : bootBuiltins x = some (.type T)) (h : WA c (e :: es) (fun ds => VC c (.type T) ds Q) Δ) (hs : (e :: es).any isStar = false := by rfl)
    (hn : x ≠ "__name__" := by decide) (hdb : (x == ("__debug__" : Str)) = false := by decide) : WO c (.Call (.Name x p) (e :: es) [] pos) Q Δ := fun X H0 Z0 hX σ H Z hS => by
  rw [List.any_cons, Bool.or_eq_false_iff] at hs
  refine We.of (pe_callTy call_any (hX.gl hg) (by rw [hX.mg]; exact hm) hv pa_we hn hdb (star1 hs.1) (star0 hs.2)) ?_
  refine (h X H0 Z0 hX σ H Z hS).mono fun vs H1 ⟨Z1, ds, s1, r1, q1⟩ => ?_
  obtain ⟨r, hr, q⟩ := q1 X H0 Z0 hX H1 Z1 vs s1.ok r1
  exact ⟨fun xs H Q0 => xs = vs ∧ H = H1 ∧ r vs H1 (oPost c.K H1 Z1 Q) ∧ ∀ z H', oPost c.K H1 Z1 Q z H' → Q0 z H',
    fun pins s σ H xs us Q0 I rx ⟨ex, eH, k, m⟩ => by
      subst ex; subst eH
      exact thn (hr pins s σ _ _ us _ I rx k) fun _ _ ⟨z, H', I', rz, qz⟩ => ⟨z, H', I', rz, m z H' qz⟩, rfl, rfl, q, fun z H' p => p.mono hS.ok s1⟩
theorem Rps.one {K : PySem.W.Frag} {Z : Sh} {vs : List V} {d : D} (r : Rps K Z vs [d]) : ∃ v, vs = [v] ∧ Rp K Z v d := by
  cases r with
  | cons r t => cases t; exact ⟨_, rfl, r⟩
theorem Rps.two {K : PySem.W.Frag} {Z : Sh} {vs : List V} {d e : D} (r : Rps K Z vs [d, e]) : ∃ v u, vs = [v, u] ∧ Rp K Z v d ∧ Rp K Z u e := by
  cases r with
  | cons r t =>
    obtain ⟨u, rfl, r2⟩ := t.one
    exact ⟨_, u, rfl, r, r2⟩
theorem vc_lenL {ds : List D} (q : Q (.int ds.length)) : VC c (.builtin "len") [.lst ds] Q := fun X _ _ hX H Z vs ok r => by
  obtain ⟨v, rfl, r1⟩ := r.one
  obtain ⟨p, ws, rfl, hp, _, rr⟩ := r1.lst_inv ok
  exact ⟨_, call_len_seq, p, ws, rfl, .inl (.of hp), opost ok .int (by rw [rr.length]; exact q)⟩
theorem vc_lenA {q : Addr} {ds : List D} (qq : Q (.int ds.length)) : VC c (.builtin "len") [.lsA q ds] Q := fun X H0 Z0 hX H Z vs ok r => by
  obtain ⟨v, rfl, r1⟩ := r.one
  exact vc_lenL qq X H0 Z0 hX H Z _ ok (.cons r1.lsA_lst .nil)
theorem vc_lenT {ds : List D} (q : Q (.int ds.length)) : VC c (.builtin "len") [.tup ds] Q := fun X _ _ hX H Z vs ok r => by
  obtain ⟨v, rfl, r1⟩ := r.one
  obtain ⟨p, ws, rfl, hp, _, rr⟩ := r1.tup_inv ok
  exact ⟨_, call_len_seq, p, ws, rfl, .inr (.of hp), opost ok .int (by rw [rr.length]; exact q)⟩
theorem vc_lenS {x : Str} (hl : x.length ≤ sizeLine) (q : Q (.int x.length)) : VC c (.builtin "len") [.str x] Q := fun X _ _ hX H Z vs ok r => by
  obtain ⟨v, rfl, r1⟩ := r.one
  cases r1
  exact ⟨_, call_len_str, x, rfl, hl, opost ok .int q⟩
theorem vc_tupL {ds : List D} (q : Q (.tup ds)) : VC c (.type "tuple") [.lst ds] Q := fun X _ _ hX H Z vs ok r => by
  obtain ⟨v, rfl, r1⟩ := r.one
  obtain ⟨p, ws, rfl, hp, _, rr⟩ := r1.lst_inv ok
  exact ⟨_, call_tuple_of, p, ws, rfl, .inl ⟨.of hp, fun l hl => opost_newT ok hl rr q⟩⟩
theorem vc_tupT {ds : List D} (q : Q (.tup ds)) : VC c (.type "tuple") [.tup ds] Q := fun X _ _ hX H Z vs ok r => by
  obtain ⟨v, rfl, r1⟩ := r.one
  obtain ⟨p, ws, rfl, hp, _, rr⟩ := r1.tup_inv ok
  exact ⟨_, call_tuple_of, p, ws, rfl, .inr ⟨.of hp, opost ok r1 q⟩⟩
theorem vc_lstL {ds : List D} (q : Q (.ol ds)) : VC c (.type "list") [.lst ds] Q := fun X _ _ hX H Z vs ok r => by
  obtain ⟨v, rfl, r1⟩ := r.one
  obtain ⟨p, ws, rfl, hp, _, rr⟩ := r1.lst_inv ok
  exact ⟨_, call_list_of, p, ws, rfl, .inl (.of hp), fun l hl => opost_newL ok hl rr q⟩
theorem vc_lstT {ds : List D} (q : Q (.ol ds)) : VC c (.type "list") [.tup ds] Q := fun X _ _ hX H Z vs ok r => by
  obtain ⟨v, rfl, r1⟩ := r.one
  obtain ⟨p, ws, rfl, hp, _, rr⟩ := r1.tup_inv ok
  exact ⟨_, call_list_of, p, ws, rfl, .inr (.of hp), fun l hl => opost_newL ok hl rr q⟩
theorem vc_int {i : Int} (q : Q (.int i)) : VC c (.type "int") [.int i] Q := fun X _ _ hX H Z vs ok r => by
  obtain ⟨v, rfl, r1⟩ := r.one
  cases r1
  exact ⟨_, call_int1, .inl ⟨i, rfl, opost ok .int q⟩⟩
theorem vc_intB {k : Bool} (q : Q (.int (if k then 1 else 0))) : VC c (.type "int") [.bl k] Q := fun X _ _ hX H Z vs ok r => by
  obtain ⟨v, rfl, r1⟩ := r.one
  cases r1
  exact ⟨_, call_int1, .inr ⟨k, rfl, opost ok .int q⟩⟩
theorem vc_str {i : Int} (hl : i.natAbs.log2 < 1920) (q : Q (.str (toString i))) : VC c (.type "str") [.int i] Q := fun X _ _ hX H Z vs ok r => by
  obtain ⟨v, rfl, r1⟩ := r.one
  cases r1
  exact ⟨_, call_str_int, i, rfl, hl, opost ok .str q⟩
theorem vc_min {i j : Int} (q : Q (.int (if j < i then j else i))) (hh : c.hot = none := by rfl) : VC c (.builtin "min") [.int i, .int j] Q := fun X _ _ hX H Z vs ok r => by
  obtain ⟨v, u, rfl, r1, r2⟩ := r.two
  cases r1; cases r2
  exact ⟨_, call_min2 (hX.calm hh), i, j, rfl, opost ok .int q⟩
theorem vc_max {i j : Int} (q : Q (.int (if j > i then j else i))) (hh : c.hot = none := by rfl) : VC c (.builtin "max") [.int i, .int j] Q := fun X _ _ hX H Z vs ok r => by
  obtain ⟨v, u, rfl, r1, r2⟩ := r.two
  cases r1; cases r2
  exact ⟨_, call_max2 (hX.calm hh), i, j, rfl, opost ok .int q⟩
theorem Rps.of_bls {K : PySem.W.Frag} {Z : Sh} : ∀ {vs : List V} {bs : List Bool}, Rps K Z vs (bs.map D.bl) → vs = bs.map V.bl
  | _, [], .nil => rfl
  | _, b :: bs, .cons r t => by cases r; rw [Rps.of_bls t]; rfl
theorem vc_all {bs : List Bool} (q : Q (.bl (bs.all id))) (hh : c.hot = none := by rfl) : VC c (.builtin "all") [.lst (bs.map D.bl)] Q := fun X _ _ hX H Z vs ok r => by
  obtain ⟨v, rfl, r1⟩ := r.one
  obtain ⟨p, ws, rfl, hp, _, rr⟩ := r1.lst_inv ok
  exact ⟨_, cr_all (hX.calm hh), p, bs, rfl, .of (by rw [hp, rr.of_bls]), opost ok .bl q⟩
theorem vc_any {bs : List Bool} (q : Q (.bl (bs.any id))) (hh : c.hot = none := by rfl) : VC c (.builtin "any") [.lst (bs.map D.bl)] Q := fun X _ _ hX H Z vs ok r => by
  obtain ⟨v, rfl, r1⟩ := r.one
  obtain ⟨p, ws, rfl, hp, _, rr⟩ := r1.lst_inv ok
  exact ⟨_, cr_any (hX.calm hh), p, bs, rfl, .of (by rw [hp, rr.of_bls]), opost ok .bl q⟩
theorem vc_sum {ns : List Int} (q : Q (.int ns.sum)) (hh : c.hot = none := by rfl) : VC c (.builtin "sum") [.lst (ns.map D.int)] Q := fun X _ _ hX H Z vs ok r => by
  obtain ⟨v, rfl, r1⟩ := r.one
  obtain ⟨p, ws, rfl, hp, _, rr⟩ := r1.lst_inv ok
  exact ⟨_, cr_sum (hX.calm hh), p, ns, rfl, .of (by rw [hp, rr.of_ints]), opost ok .int q⟩
end
end DL
end
section
set_option Elab.async false
set_option linter.all false
set_option maxRecDepth 100000
set_option maxHeartbeats 4000000
/-! DL3: isinstance, in, == of data, tuples added, slices, join; own defs and classes called. -/
namespace DL
open PySem PySem.Spec PyProof.Rows L2

/-! ### plain data, for the library's == -/
mutual
def D.py : D → PyData
  | .non => .none | .bl b => .bool b | .int i => .int i | .str x => .str x
  | .tup l => .tuple (pys l) | .lst l => .list (pys l)
  | _ => .none
def pys : List D → List PyData
  | [] => []
  | d :: ds => d.py :: pys ds
end
mutual
def D.pure : D → Bool
  | .non => true | .bl _ => true | .int _ => true | .str _ => true
  | .tup l => pures l | .lst l => pures l
  | _ => false
def pures : List D → Bool
  | [] => true
  | d :: ds => d.pure && pures ds
end
mutual
theorem dp_of {K : PySem.W.Frag} {Z : Sh} {H : Hp} (ok : OkZ H Z) : ∀ (d : D) {v : V}, d.pure = true → Rp K Z v d → Dp K H v d.py
  | .non, _, _, r => by cases r; exact .non
  | .bl b, _, _, r => by cases r; exact .bl b
  | .int i, _, _, r => by cases r; exact .int i
  | .str x, _, _, r => by cases r; exact .str x
  | .tup l, _, h, r => by
    obtain ⟨p, vs, rfl, hp, _, rr⟩ := r.tup_inv ok
    exact .tup (.of hp) (dps_of ok l (by simpa [D.pure] using h) rr)
  | .lst l, _, h, r => by
    obtain ⟨p, vs, rfl, hp, _, rr⟩ := r.lst_inv ok
    exact .lst (.of hp) (dps_of ok l (by simpa [D.pure] using h) rr)
  | .ty _, _, h, _ => by cases h
  | .ins _ _ _, _, h, _ => by cases h
  | .adr _, _, h, _ => by cases h
  | .scr _, _, h, _ => by cases h
  | .lsA _ _, _, h, _ => by cases h
  | .pen, _, h, _ => by cases h
  | .dK _ _, _, h, _ => by cases h
  | .dT _ _, _, h, _ => by cases h
  | .ol _, _, h, _ => by cases h
  | .oi _ _ _ _, _, h, _ => by cases h
  | .oK _ _ _, _, h, _ => by cases h
  | .oT _ _ _, _, h, _ => by cases h
theorem dps_of {K : PySem.W.Frag} {Z : Sh} {H : Hp} (ok : OkZ H Z) : ∀ (ds : List D) {vs : List V}, pures ds = true → Rps K Z vs ds → DpAll K H vs (pys ds)
  | [], _, _, r => by cases r; exact .nil
  | d :: ds, _, h, r => by
    cases r with
    | cons r t =>
      have h' : (d.pure && pures ds) = true := h
      rw [Bool.and_eq_true] at h'
      exact .cons (dp_of ok d h'.1 r) (dps_of ok ds h'.2 t)
end

section
variable {c : Cf} {e a b : Expr} {es : List Expr} {Q : D → Prop} {Δ : Dl} {pos : Pos}
theorem vo_eqD {x y : D} (hx : x.pure = true) (hy : y.pure = true) (sx : SeqAt.shaped x.py = true) (sy : SeqAt.shaped y.py = true) (q : Q (.bl (PyData.eqv x.py y.py))) (hh : c.hot = none := by rfl) : VO c (compareOp .Eq) x y Q := fun X _ _ hX H Z v u ok r1 r2 =>
  ⟨_, op_eqD (hX.room hh).units, x.py, y.py, by rw [hX.K]; exact dp_of ok x hx r1, by rw [hX.K]; exact dp_of ok y hy r2, sx, sy, opost ok .bl q⟩
theorem vo_neD {x y : D} (hx : x.pure = true) (hy : y.pure = true) (sx : SeqAt.shaped x.py = true) (sy : SeqAt.shaped y.py = true) (q : Q (.bl (!PyData.eqv x.py y.py))) (hh : c.hot = none := by rfl) : VO c (compareOp .NotEq) x y Q := fun X _ _ hX H Z v u ok r1 r2 =>
  ⟨_, op_neD (hX.room hh).units, x.py, y.py, by rw [hX.K]; exact dp_of ok x hx r1, by rw [hX.K]; exact dp_of ok y hy r2, sx, sy, opost ok .bl q⟩
theorem room_in {A : Around} {k : Nat} (r : Room k A) : A.units + 65 < cLine := by have := r.un; omega
theorem vo_inD {x : D} {ds : List D} (hx : x.pure = true) (hy : pures ds = true) (sx : SeqAt.shaped x.py = true) (sy : SeqAt.shaped (.list (pys ds)) = true) (q : Q (.bl ((pys ds).any fun z => PyData.eqv z x.py))) (hh : c.hot = none := by rfl) : VO c (compareOp .In) x (.lst ds) Q := fun X _ _ hX H Z v u ok r1 r2 =>
  ⟨_, op_inD (room_in (hX.room hh)), x.py, pys ds, by rw [hX.K]; exact dp_of ok x hx r1, by rw [hX.K]; exact dp_of ok (.lst ds) hy r2, sx, sy, opost ok .bl q⟩
theorem vo_niD {x : D} {ds : List D} (hx : x.pure = true) (hy : pures ds = true) (sx : SeqAt.shaped x.py = true) (sy : SeqAt.shaped (.list (pys ds)) = true) (q : Q (.bl (!(pys ds).any fun z => PyData.eqv z x.py))) (hh : c.hot = none := by rfl) : VO c (compareOp .NotIn) x (.lst ds) Q := fun X _ _ hX H Z v u ok r1 r2 =>
  ⟨_, op_notInD (room_in (hX.room hh)), x.py, pys ds, by rw [hX.K]; exact dp_of ok x hx r1, by rw [hX.K]; exact dp_of ok (.lst ds) hy r2, sx, sy, opost ok .bl q⟩
/-! ### in, of texts and of ints -/
theorem Rps.of_strs {K : PySem.W.Frag} {Z : Sh} : ∀ {vs : List V} {zs : List Str}, Rps K Z vs (zs.map D.str) → vs = zs.map V.str
  | _, [], .nil => rfl
  | _, z :: zs, .cons r t => by cases r; rw [Rps.of_strs t]; rfl
theorem flat_strs (zs : List Str) : (zs.map V.str).all flatV = true := by induction zs with
  | nil => rfl
  | cons z zs ih => rw [List.map_cons, List.all_cons, ih]; rfl
theorem flat_ints (zs : List Int) : (zs.map V.int).all flatV = true := by induction zs with
  | nil => rfl
  | cons z zs ih => rw [List.map_cons, List.all_cons, ih]; rfl
/-- a list or a tuple of such items -/
inductive Sq : D → List D → Prop
  | lst {ds : List D} : Sq (.lst ds) ds
  | tup {ds : List D} : Sq (.tup ds) ds
theorem Sq.inv {K : PySem.W.Frag} {Z : Sh} {H : Hp} {v : V} {y : D} {ds : List D} (ok : OkZ H Z) (h : Sq y ds) (r : Rp K Z v y) : ∃ p vs, v = .ref p ∧ (SqL K H p vs ∨ SqT K H p vs) ∧ Rps K Z vs ds := by
  cases h with
  | lst => obtain ⟨p, vs, rfl, hp, _, rr⟩ := r.lst_inv ok; exact ⟨p, vs, rfl, .inl (.of hp), rr⟩
  | tup => obtain ⟨p, vs, rfl, hp, _, rr⟩ := r.tup_inv ok; exact ⟨p, vs, rfl, .inr (.of hp), rr⟩
theorem inV_str (z : Str) (zs : List Str) : inV (.str z) (zs.map V.str) = decide (z ∈ zs) := by
  unfold inV
  induction zs with
  | nil => simp
  | cons y ys ih =>
    rw [List.map_cons, List.any_cons, ih]
    have e : eqV (.str y) (.str z) = decide (z = y) := by
      show (y == z) = decide (z = y)
      by_cases h : z = y
      · subst h; simp
      · rw [decide_eq_false h]
        exact beq_eq_false_iff_ne.mpr fun q => h q.symm
    rw [e]
    by_cases h : z = y <;> by_cases h2 : z ∈ ys <;> simp [h, h2]
theorem inV_int (z : Int) (zs : List Int) : inV (.int z) (zs.map V.int) = decide (z ∈ zs) := by
  unfold inV
  induction zs with
  | nil => simp
  | cons y ys ih =>
    rw [List.map_cons, List.any_cons, ih]
    have e : eqV (.int y) (.int z) = decide (z = y) := by
      show (y == z) = decide (z = y)
      by_cases h : z = y
      · subst h; simp
      · rw [decide_eq_false h]
        exact beq_eq_false_iff_ne.mpr fun q => h q.symm
    rw [e]
    by_cases h : z = y <;> by_cases h2 : z ∈ ys <;> simp [h, h2]
theorem vo_inS {x : Str} {y : D} {zs : List Str} (h : Sq y (zs.map D.str)) (q : Q (.bl (decide (x ∈ zs)))) : VO c (compareOp .In) (.str x) y Q := fun X _ _ hX H Z v u ok r1 r2 => by
  cases r1
  obtain ⟨p, vs, rfl, hp, rr⟩ := h.inv ok r2
  rw [rr.of_strs] at hp
  refine ⟨_, op_in_seq, p, _, rfl, by rw [hX.K]; exact hp, rfl, flat_strs _, opost ok .bl ?_⟩
  rw [if_neg Bool.false_ne_true, inV_str]; exact q
theorem vo_niS {x : Str} {y : D} {zs : List Str} (h : Sq y (zs.map D.str)) (q : Q (.bl (!decide (x ∈ zs)))) : VO c (compareOp .NotIn) (.str x) y Q := fun X _ _ hX H Z v u ok r1 r2 => by
  cases r1
  obtain ⟨p, vs, rfl, hp, rr⟩ := h.inv ok r2
  rw [rr.of_strs] at hp
  refine ⟨_, op_notIn_seq, p, _, rfl, by rw [hX.K]; exact hp, rfl, flat_strs _, opost ok .bl ?_⟩
  rw [if_pos rfl, inV_str]; exact q
theorem vo_inI {x : Int} {y : D} {zs : List Int} (h : Sq y (zs.map D.int)) (q : Q (.bl (decide (x ∈ zs)))) : VO c (compareOp .In) (.int x) y Q := fun X _ _ hX H Z v u ok r1 r2 => by
  cases r1
  obtain ⟨p, vs, rfl, hp, rr⟩ := h.inv ok r2
  rw [rr.of_ints] at hp
  refine ⟨_, op_in_seq, p, _, rfl, by rw [hX.K]; exact hp, rfl, flat_ints _, opost ok .bl ?_⟩
  rw [if_neg Bool.false_ne_true, inV_int]; exact q
theorem vo_niI {x : Int} {y : D} {zs : List Int} (h : Sq y (zs.map D.int)) (q : Q (.bl (!decide (x ∈ zs)))) : VO c (compareOp .NotIn) (.int x) y Q := fun X _ _ hX H Z v u ok r1 r2 => by
  cases r1
  obtain ⟨p, vs, rfl, hp, rr⟩ := h.inv ok r2
  rw [rr.of_ints] at hp
  refine ⟨_, op_notIn_seq, p, _, rfl, by rw [hX.K]; exact hp, rfl, flat_ints _, opost ok .bl ?_⟩
  rw [if_pos rfl, inV_int]; exact q
/-- one sign in a text -/
theorem vo_sign {k : Nat} {z : Str} (q : Q (.bl (decide (k ∈ z.cps.toList)))) : VO c (compareOp .In) (.str ⟨#[k]⟩) (.str z) Q := fun X _ _ hX H Z v u ok r1 r2 => by
  cases r1; cases r2
  exact ⟨_, op_in_sign, k, z, rfl, rfl, opost ok .bl q⟩
theorem vo_nsign {k : Nat} {z : Str} (q : Q (.bl (!decide (k ∈ z.cps.toList)))) : VO c (compareOp .NotIn) (.str ⟨#[k]⟩) (.str z) Q := fun X _ _ hX H Z v u ok r1 r2 => by
  cases r1; cases r2
  exact ⟨_, op_notIn_sign, k, z, rfl, rfl, opost ok .bl q⟩

/-! ### tuples and lists added, repeated, cut -/
theorem vo_catT {xs ys : List D} (hl : xs.length + ys.length ≤ sizeLine) (q : Q (.tup (xs ++ ys))) : VO c (binaryOp .Add) (.tup xs) (.tup ys) Q := fun X _ _ hX H Z v u ok r1 r2 => by
  obtain ⟨p, vs, rfl, hp, _, rr⟩ := r1.tup_inv ok
  obtain ⟨p2, ws, rfl, hp2, _, rr2⟩ := r2.tup_inv ok
  refine ⟨_, op_catA, p, p2, vs, ws, rfl, rfl, .of hp, .of hp2, by rw [rr.length, rr2.length]; exact hl, fun e => ?_, fun _ e => ?_, fun _ _ t ht => opost_newT ok ht (rr.append rr2) q⟩
  · subst e; cases rr; exact opost ok r2 q
  · subst e; cases rr2; rw [List.append_nil] at q; exact opost ok r1 q
theorem vo_catL {xs ys : List D} (hl : xs.length + ys.length ≤ sizeLine) (q : Q (.ol (xs ++ ys))) : VO c (binaryOp .Add) (.lst xs) (.lst ys) Q := fun X _ _ hX H Z v u ok r1 r2 => by
  obtain ⟨p, vs, rfl, hp, _, rr⟩ := r1.lst_inv ok
  obtain ⟨p2, ws, rfl, hp2, _, rr2⟩ := r2.lst_inv ok
  exact ⟨_, op_cat, p, p2, vs, ws, rfl, rfl, hp, hp2, by rw [rr.length, rr2.length]; exact hl, fun t ht => opost_newL ok ht (rr.append rr2) q⟩
theorem Rps.rep {K : PySem.W.Frag} {Z : Sh} {vs : List V} {ds : List D} (r : Rps K Z vs ds) : ∀ n : Nat, Rps K Z (List.replicate n vs).flatten (List.replicate n ds).flatten
  | 0 => .nil
  | n + 1 => by
    rw [List.replicate_succ, List.flatten_cons, List.replicate_succ, List.flatten_cons]
    exact r.append (Rps.rep r n)
theorem vo_repL {xs : List D} {k : Int} (h1 : -(2 ^ 63) ≤ k) (h2 : k < 2 ^ 63) (hl : xs.length * k.toNat ≤ sizeLine) (q : Q (.ol (List.replicate k.toNat xs).flatten)) : VO c (binaryOp .Mult) (.lst xs) (.int k) Q := fun X _ _ hX H Z v u ok r1 r2 => by
  cases r2
  obtain ⟨p, vs, rfl, hp, _, rr⟩ := r1.lst_inv ok
  exact ⟨_, op_rep, p, k, vs, rfl, rfl, hp, h1, h2, by rw [rr.length]; exact hl, fun t ht => opost_newL ok ht (rr.rep _) q⟩
def cutD (xs : List D) (lo hi : Option Int) : List D := (xs.drop (HT.sIx xs.length 0 lo)).take (HT.sIx xs.length xs.length hi - HT.sIx xs.length 0 lo)
theorem Rps.cut {K : PySem.W.Frag} {Z : Sh} {vs : List V} {ds : List D} (r : Rps K Z vs ds) (lo hi : Option Int) : Rps K Z (cutV vs lo hi) (cutD ds lo hi) := by
  unfold cutV cutD
  rw [r.length]
  exact (r.drop _).take _
def VS (c : Cf) (x : D) (lo hi : Option Int) (Q : D → Prop) : Prop :=
  ∀ X H0 Z0, CtxOk c H0 Z0 X → ∀ H Z v, OkZ H Z → Rp c.K Z v x → ∃ r, L2.SlR X r ∧ r v lo hi H (oPost c.K H Z Q)
def WOp (c : Cf) (e : Option Expr) (Q : Option Int → Prop) (Δ : Dl) : Prop :=
  match e with
  | none => Q none
  | some e => WE c e (fun d => ∃ i, d = .int i ∧ Q (some i)) Δ
theorem wop_run {e : Option Expr} {Q : Option Int → Prop} (h : WOp c e Q Δ) {X H0 Z0} (hX : CtxOk c H0 Z0 X) {σ : L2.St} {H : Hp} {Z : Sh} (hS : Slots c.K H0 Z0 σ H Z Δ) : ∃ t, PO X e t ∧ t σ H (fun o H' => ∃ Z', Stp H Z H' Z' ∧ Q o) := by
  cases e with
  | none => exact ⟨_, po_none, Z, .refl hS.ok, h⟩
  | some e =>
    exact ⟨_, po_some pe_we, (show WE c e _ Δ from h) X H0 Z0 hX σ H Z hS |>.mono fun v H1 ⟨Z1, d, s1, r1, i, ed, q⟩ => by subst ed; cases r1; exact ⟨i, rfl, Z1, s1, q⟩⟩
theorem sl_any {X : Cx} : L2.SlR X (fun x lo hi H Q => ∃ r, L2.SlR X r ∧ r x lo hi H Q) := fun pins s σ H x v vl vu lo hi sl Q I rx hs pl pu ⟨r, h, q⟩ => h pins s σ H x v vl vu lo hi sl Q I rx hs pl pu q
/-- the parts of a slice, by what they are in this state -/
def Wpo (X : Cx) (e : Option Expr) : TO := fun σ H Q => ∀ pins s, Inv X pins σ H s → wpAny (model X.prog X.w) X.A (evalPart e X.env) (fun u s' => ∃ o H', Inv X pins σ H' s' ∧ IsPart u o ∧ Q o H') X.xe s
theorem po_we {X : Cx} {e : Option Expr} : PO X e (Wpo X e) := ⟨fun pins s σ H Q I h => h pins s I⟩
theorem wop_we {e : Option Expr} {Q : Option Int → Prop} (h : WOp c e Q Δ) {X H0 Z0} (hX : CtxOk c H0 Z0 X) {σ : L2.St} {H : Hp} {Z : Sh} (hS : Slots c.K H0 Z0 σ H Z Δ) : Wpo X e σ H (fun o H' => ∃ Z', Stp H Z H' Z' ∧ Q o) := by
  obtain ⟨t, ht, q⟩ := wop_run h hX hS
  exact fun pins s I => ht.run pins s σ H _ I q
theorem Wpo.mono {X : Cx} {e : Option Expr} {σ : L2.St} {H : Hp} {Q Q' : Option Int → Hp → Prop} (h : Wpo X e σ H Q) (k : ∀ o H', Q o H' → Q' o H') : Wpo X e σ H Q' := fun pins s I =>
  thn (h pins s I) fun _ _ ⟨o, H', I', r, q⟩ => ⟨o, H', I', r, k o H' q⟩
theorem wo_slice {lo hi : Option Expr} {p2 : Pos} (h : WE c a (fun x => WOp c lo (fun l => WOp c hi (fun u => VS c x l u Q) Δ) Δ) Δ) : WO c (.Subscript a (.Slice lo hi none p2) pos) Q Δ := fun X H0 Z0 hX σ H Z hS => by
  refine We.of (pe_slice sl_any pe_we po_we po_we) ?_
  refine (h X H0 Z0 hX σ H Z hS).mono fun v H1 ⟨Z1, x, s1, r1, q1⟩ => ?_
  refine (wop_we q1 hX (hS.step s1)).mono fun l H2 ⟨Z2, s2, q2⟩ => ?_
  refine (wop_we q2 hX ((hS.step s1).step s2)).mono fun u H3 ⟨Z3, s3, q3⟩ => ?_
  obtain ⟨r, hr, q⟩ := q3 X H0 Z0 hX H3 Z3 v s3.ok (r1.le (s2.le.trans s3.le))
  exact ⟨fun x lo hi H Q0 => x = v ∧ lo = l ∧ hi = u ∧ H = H3 ∧ r v l u H3 (oPost c.K H3 Z3 Q) ∧ ∀ z H', oPost c.K H3 Z3 Q z H' → Q0 z H',
    fun pins s σ H x v' vl vu lo hi sl Q0 I rx hs pl pu ⟨ex, el, eu, eH, k, m⟩ => by
      subst ex; subst el; subst eu; subst eH
      obtain ⟨T, id, h1, h2, h3⟩ := hr pins s σ _ _ v' vl vu _ _ sl _ I rx hs pl pu k
      exact ⟨T, id, h1, h2, thn h3 fun _ _ ⟨z, H', I', rz, qz⟩ => ⟨z, H', I', rz, m z H' qz⟩⟩, rfl, rfl, rfl, rfl, q, fun z H' p => p.mono hS.ok ((s1.trans s2).trans s3)⟩
theorem we_slice {lo hi : Option Expr} {p2 : Pos} (h : WE c a (fun x => WOp c lo (fun l => WOp c hi (fun u => VS c x l u (fun d => Q d.frz)) Δ) Δ) Δ) : WE c (.Subscript a (.Slice lo hi none p2) pos) Q Δ := we_of_wo (wo_slice h)
theorem cut_whole {xs : List D} {lo hi : Option Int} (h : HT.sIx xs.length 0 lo = 0 ∧ HT.sIx xs.length xs.length hi = xs.length) : cutD xs lo hi = xs := by
  unfold cutD
  rw [h.1, h.2, List.drop_zero, Nat.sub_zero, List.take_length]
theorem vs_tup {xs : List D} {lo hi : Option Int} (q : Q (.tup (cutD xs lo hi))) : VS c (.tup xs) lo hi Q := fun X _ _ hX H Z v ok r1 => by
  obtain ⟨p, vs, rfl, hp, _, rr⟩ := r1.tup_inv ok
  refine ⟨_, sl_tupA, p, vs, rfl, .of hp, fun w => ?_, fun w t ht => opost_newT ok ht (rr.cut lo hi) q⟩
  rw [cut_whole (by rw [rr.length] at w; exact w)] at q
  exact opost ok r1 q
theorem vs_lst {xs : List D} {lo hi : Option Int} (q : Q (.ol (cutD xs lo hi))) : VS c (.lst xs) lo hi Q := fun X _ _ hX H Z v ok r1 => by
  obtain ⟨p, vs, rfl, hp, _, rr⟩ := r1.lst_inv ok
  exact ⟨_, sl_list, p, vs, rfl, .of hp, fun t ht => opost_newL ok ht (rr.cut lo hi) q⟩

/-! ### isinstance -/
def D.tyN : D → Option String
  | .non => some "NoneType" | .bl _ => some "bool" | .int _ => some "int" | .str _ => some "str" | .tup _ => some "tuple" | .lst _ => some "list" | .dK _ _ => some "dict" | .dT _ _ => some "dict"
  | _ => none
theorem tyX_of {K : PySem.W.Frag} {H : Hp} {Z : Sh} {v : V} {d : D} {T : String} (ok : OkZ H Z) (r : Rp K Z v d) (h : d.tyN = some T) : TyX K H v (.type T) := by
  cases d with
  | non => cases r; cases h; exact .base .non
  | bl b => cases r; cases h; exact .base (.bl b)
  | int b => cases r; cases h; exact .base (.int b)
  | str b => cases r; cases h; exact .base (.str b)
  | tup l => obtain ⟨p, vs, rfl, hp, _⟩ := r.tup_inv ok; cases h; exact .base (.tup hp)
  | lst l => obtain ⟨p, vs, rfl, hp, _⟩ := r.lst_inv ok; cases h; exact .base (.lst hp)
  | dK ks l =>
    cases r with
    | dK z _ _ =>
      obtain ⟨u, hu, hf⟩ := ok _ _ z
      have hf : u = _ := hf
      subst hf; cases h; exact .base (.dK hu)
  | dT ks l =>
    cases r with
    | dT z _ _ =>
      obtain ⟨u, hu, hf⟩ := ok _ _ z
      have hf : u = _ := hf
      subst hf; cases h; exact .base (.dT hu)
  | _ => cases h
theorem vc_isi {x : D} {T U : String} {k : Bool} (hx : x.tyN = some T) (hk : kitB T U = some k) (q : Q (.bl k)) : VC c (.builtin "isinstance") [x, .ty U] Q := fun X _ _ hX H Z vs ok r => by
  obtain ⟨v, u, rfl, r1, r2⟩ := r.two
  cases r2
  exact ⟨_, call_isi, v, .ty U, .type T, .type U, k, rfl, .ty U, by rw [hX.K]; exact tyX_of ok r1 hx, kit_ty hk, opost ok .bl q⟩
def kitBs (T : String) : List String → Option Bool
  | [] => some false
  | U :: Us => match kitB T U with
    | some true => some true
    | some false => kitBs T Us
    | none => none
theorem kitBs_any {K : PySem.W.Frag} {T : String} : ∀ {Us : List String} {k : Bool}, kitBs T Us = some k → PySem.W.kitAny K (.type T) (Us.map Value.type) = some k
  | [], k, h => h
  | U :: Us, k, h => by
    rw [List.map_cons]
    unfold kitBs at h
    cases e : kitB T U with
    | none => rw [e] at h; cases h
    | some b =>
      rw [e] at h
      cases b with
      | true => cases h; exact kitAny_cons (kit_ty e) (fun z => nomatch z) (fun _ => rfl)
      | false => exact kitAny_cons (kit_ty e) (fun _ => kitBs_any h) (fun z => nomatch z)
theorem clsV_tys {K : PySem.W.Frag} {Z : Sh} : ∀ {vs : List V} {Us : List String}, Rps K Z vs (Us.map D.ty) → Paired ClsV vs (Us.map Value.type)
  | _, [], .nil => .nil
  | _, U :: Us, .cons r t => by cases r; exact .cons (.ty U) (clsV_tys t)
theorem vc_isiT {x : D} {T : String} (Us : List String) {k : Bool} (hx : x.tyN = some T) (hk : kitBs T Us = some k) (q : Q (.bl k)) : VC c (.builtin "isinstance") [x, .tup (Us.map D.ty)] Q := fun X _ _ hX H Z vs ok r => by
  obtain ⟨v, u, rfl, r1, r2⟩ := r.two
  obtain ⟨p, ws, rfl, hp, _, rr⟩ := r2.tup_inv ok
  exact ⟨_, call_isiT, v, p, ws, .type T, Us.map Value.type, k, rfl, hp, clsV_tys rr, by rw [hX.K]; exact tyX_of ok r1 hx, kitBs_any hk, opost ok .bl q⟩
/-- an own class: what the program's text says of it -/
structure ClsF (K : PySem.W.Frag) (C : Addr) : Prop where
  cl : Cls K C
  ha : PySem.W.findIn K (.ref C) "__class__" = some (some (.builtin "object.__class__"))
  hn : PySem.W.specialIn K (.builtin "object.__class__") "__get__" = some (some (.builtin "getset_descriptor.__get__"))
  htk : PySem.W.takesIn K (.builtin "object.__class__") = some true
  hm : PySem.W.mroIn K C (.type "object") = some true
theorem vc_isiC {x : D} {T : String} {C : Addr} {k : Bool} (hx : x.tyN = some T) (hk : PySem.W.kitOne c.K (.type T) (.ref C) = some k) (q : Q (.bl k)) : VC c (.builtin "isinstance") [x, .adr C] Q := fun X _ _ hX H Z vs ok r => by
  obtain ⟨v, u, rfl, r1, r2⟩ := r.two
  cases r2
  exact ⟨_, call_isi, v, .ref C, .type T, .ref C, k, rfl, .own C, by rw [hX.K]; exact tyX_of ok r1 hx, by rw [hX.K]; exact hk, opost ok .bl q⟩
theorem vc_isiI {C C' : Addr} {ns : List Str} {ds : List D} {k : Bool} (hc : ClsF c.K C) (hk : PySem.W.kitOne c.K (.ref C) (.ref C') = some k) (q : Q (.bl k)) : VC c (.builtin "isinstance") [.ins C ns ds, .adr C'] Q := fun X _ _ hX H Z vs ok r => by
  obtain ⟨v, u, rfl, r1, r2⟩ := r.two
  cases r2
  obtain ⟨p, dx, ws, rfl, hp, _, _⟩ := r1.ins_inv ok
  refine ⟨_, call_isi, _, .ref C', .ref C, .ref C', k, rfl, .own C', ?_, by rw [hX.K]; exact hk, opost ok .bl q⟩
  rw [hX.K]
  exact .base (.ins hp hc.cl hc.ha hc.hn hc.htk hc.hm)
theorem vc_isiIT {C : Addr} {ns : List Str} {ds : List D} {U : String} {k : Bool} (hc : ClsF c.K C) (hk : PySem.W.kitOne c.K (.ref C) (.type U) = some k) (q : Q (.bl k)) : VC c (.builtin "isinstance") [.ins C ns ds, .ty U] Q := fun X _ _ hX H Z vs ok r => by
  obtain ⟨v, u, rfl, r1, r2⟩ := r.two
  cases r2
  obtain ⟨p, dx, ws, rfl, hp, _, _⟩ := r1.ins_inv ok
  refine ⟨_, call_isi, _, .ty U, .ref C, .type U, k, rfl, .ty U, ?_, by rw [hX.K]; exact hk, opost ok .bl q⟩
  rw [hX.K]
  exact .base (.ins hp hc.cl hc.ha hc.hn hc.htk hc.hm)

/-! ### methods of built-in types -/
theorem we_join {apos : Pos} {z : Expr} (h : WE c a (fun x => ∃ s, x = .str s ∧ WE c z (fun y => ∃ ys : List Str, Sq y (ys.map D.str) ∧ (ys.map (·.length)).sum + ys.length * s.length ≤ 16777216 ∧ Q (.str (Txt.join s ys))) Δ) Δ)
    (hs : isStar z = false := by rfl) (hb : ∀ env w, attributeBase a "join" env w = w := by intro _ _; rfl) (hline : (apos.endLine == pos.line) = true := by rfl) : WE c (.Call (.Attribute a "join" apos) [z] [] pos) Q Δ := fun X H0 Z0 hX σ H Z hS => by
  refine We.of (pe_join pe_we pe_we (star1 hs) (hb _ _) hline) ?_
  refine (h X H0 Z0 hX σ H Z hS).mono fun v H1 ⟨Z1, x, s1, r1, s, ex, q1⟩ => ?_
  subst ex; cases r1
  refine ⟨⟨s, rfl⟩, ?_⟩
  refine (q1 X H0 Z0 hX σ H1 Z1 (hS.step s1)).mono fun u H2 ⟨Z2, y, s2, r2, ys, hy, hl, q⟩ => ?_
  obtain ⟨p, vs, rfl, hp, rr⟩ := hy.inv s2.ok r2
  rw [rr.of_strs] at hp
  exact ⟨s, p, ys, rfl, rfl, by rw [hX.K]; exact hp, hl, Z2, _, s1.trans s2, .str, q⟩

/-! ### own defs -/
abbrev DSp := List D → (D → Prop) → (XD → Prop) → Prop
def lift (K : PySem.W.Frag) (sp : DSp) : Sp := fun vs H Q E => ∃ Z ds Q0 E0, OkZ H Z ∧ Rps K Z vs ds ∧ sp ds Q0 E0 ∧ (∀ d, Q0 d → ∀ v H' Z', Stp H Z H' Z' → Rr K H H' Z' v d → Q v H') ∧
  ∀ x, E0 x → ∀ cls d H' Z', Stp H Z H' Z' → RX K Z' H' cls d x → E cls d H'
structure Def (P : Program) (w : World) (K : PySem.W.Frag) (mg : Str → Option Value) (base : Heap) (j : Nat) (x : Str) (sp : DSp) : Prop where
  ex : ∃ f fd ps, mg x = some (.ref f) ∧ PySem.W.keepIn K (.ref f) = true ∧ Binds K fd ps [] ∧ FnOk P w K mg base (L2.CX P w) j f fd ps (lift K sp)
theorem CtxOk.passes {H0 Z0 X} (hX : CtxOk c H0 Z0 X) : Passes (L2.CX X.prog X.w) X (fun cls d H => liftX c.K c.W H0 Z0 cls d ([] : L2.St) H) := passes_call hX.tk fun _ _ _ _ h => h
theorem CtxOk.fnOk {H0 Z0 X} (hX : CtxOk c H0 Z0 X) {j : Nat} {f : Addr} {fd : FuncData} {ps : List Str} {sp : Sp} (F : FnOk c.P c.w c.K c.mg c.base (L2.CX c.P c.w) j f fd ps sp) : FnOk X.prog X.w X.K X.mg X.base (L2.CX X.prog X.w) j f fd ps sp := by
  rw [hX.P, hX.w, hX.K, hX.mg, hX.base]; exact F
theorem lift_of {H0 : Hp} {Z0 : Sh} {H H1 : Hp} {Z Z1 : Sh} {vs : List V} {ds : List D} {sp : DSp} {W : XD → Prop} {K : PySem.W.Frag} (ok0 : OkZ H0 Z0) (st : Stp H0 Z0 H Z) (s1 : Stp H Z H1 Z1) (r : Rps K Z1 vs ds) (h : sp ds Q W) :
    lift K sp (vs ++ []) H1 (oPost K H Z Q) (fun cls d H => liftX K W H0 Z0 cls d ([] : L2.St) H) := by
  rw [List.append_nil]
  exact ⟨Z1, ds, Q, W, s1.ok, r, h, fun d q v H' Z' s rr => oPost.mono st.ok s1 ⟨Z', d, s, rr, q⟩, fun x w cls d H' Z' s rx => ⟨Z', x, (st.trans s1).trans s, rx, w⟩⟩
theorem wo_call {x : Str} {p : Pos} {j : Nat} {sp : DSp} (F : Def c.P c.w c.K c.mg c.base j x sp) (hj : j ≤ c.k) (hg : Glo c x) (h : WA c (e :: es) (fun ds => sp ds Q c.W) Δ) (hs : (e :: es).any isStar = false := by rfl)
    (hdb : (x == ("__debug__" : Str)) = false := by decide) (hh : c.hot = none := by rfl) : WO c (.Call (.Name x p) (e :: es) [] pos) Q Δ := fun X H0 Z0 hX σ H Z hS => by
  rw [List.any_cons, Bool.or_eq_false_iff] at hs
  obtain ⟨f, fd, ps, hm, hk, hb, FF⟩ := F.ex
  refine We.of (pe_call (hX.fnOk FF) ((hX.room hh).mono hj) (hX.gl hg) (by rw [hX.mg]; exact hm) (by rw [hX.K]; exact hk) (by rw [hX.K]; exact hb) .nil hX.passes pa_we hdb (star1 hs.1) (star0 hs.2)) ?_
  exact (h X H0 Z0 hX σ H Z hS).mono fun vs H1 ⟨Z1, ds, s1, r1, q1⟩ => lift_of hS.ok0 hS.stp s1 r1 q1
theorem we_call {x : Str} {p : Pos} {j : Nat} {sp : DSp} (F : Def c.P c.w c.K c.mg c.base j x sp) (hj : j ≤ c.k) (hg : Glo c x) (h : WA c (e :: es) (fun ds => sp ds (fun d => Q d.frz) c.W) Δ) (hs : (e :: es).any isStar = false := by rfl)
    (hdb : (x == ("__debug__" : Str)) = false := by decide) (hh : c.hot = none := by rfl) : WE c (.Call (.Name x p) (e :: es) [] pos) Q Δ := we_of_wo (wo_call (hh := hh) F hj hg h hs hdb)
end
end DL
end
section
set_option Elab.async false
set_option linter.all false
set_option maxRecDepth 100000
set_option maxHeartbeats 4000000
/-! DL4: what is walked, comprehensions, statements, defs. -/
namespace DL
open PySem PySem.Spec PyProof.Rows L2

/-! ### targets -/
/-- a target takes a frozen value; the slots js may change -/
def WG (c : Cf) (js : List Nat) (tg : Expr) (x : D) (Q : Dl → Prop) (Δ : Dl) : Prop := ∀ X H0 Z0, CtxOk c H0 Z0 X → ∀ σ H Z v, Slots c.K H0 Z0 σ H Z Δ → Rp c.K Z v x →
  Wg X tg v σ H (fun σ' H' => ∃ Z' Δ', Stp H Z H' Z' ∧ Slots c.K H0 Z0 σ' H' Z' Δ' ∧ (σ'.length = σ.length ∧ ∀ i, i ∉ js → σ'[i]? = σ[i]?) ∧ Q Δ')
section
variable {c : Cf} {e a b : Expr} {es : List Expr} {Δ : Dl} {pos : Pos} {js : List Nat}
theorem Wg.of {X : Cx} {tg : Expr} {t : TG} {v : V} {σ : L2.St} {H : Hp} {Q} (h : PG X tg t) (q : t v σ H Q) : Wg X tg v σ H Q := fun pins s u I r => h.run pins s σ H v u Q I r q
theorem Wg.mono {X : Cx} {tg : Expr} {v : V} {σ : L2.St} {H : Hp} {Q Q' : L2.St → Hp → Prop} (h : Wg X tg v σ H Q) (k : ∀ σ' H', Q σ' H' → Q' σ' H') : Wg X tg v σ H Q' := fun pins s u I r =>
  thn (h pins s u I r) fun _ _ ⟨σ', H', I', q⟩ => ⟨σ', H', I', k σ' H' q⟩
theorem CtxOk.pg {H0 Z0 X} (hX : CtxOk c H0 Z0 X) {x : Str} {i : Nat} (hi : c.N[i]? = some x) (hx : Loc c.sc x) (hst : c.st x = true) : PG X (.Name x pos) (gName i) :=
  pg_name (by rw [hX.N]; exact hX.nd) (by rw [hX.N]; exact hi) (by rw [hX.sc]; exact hx) (by rw [hX.sc]; exact hX.fn x hst hx)
theorem wg_name (i : Nat) {x : Str} {d : D} {Q : Dl → Prop} (hi : c.N[i]? = some x) (hx : Loc c.sc x) (hj : i ∈ js) (q : Q (Δ.set i (some d))) (hst : c.st x = true := by rfl) : WG c js (.Name x pos) d Q Δ := fun X H0 Z0 hX σ H Z v hS r =>
  Wg.of (hX.pg hi hx hst) ⟨Z, _, .refl hS.ok, hS.set i r, ⟨List.length_set, fun m hm => by rw [List.getElem?_set_ne (fun e => hm (by rw [← e]; exact hj))]⟩, q⟩
def WGs (c : Cf) (js : List Nat) (ts : List Expr) (xs : List D) (Q : Dl → Prop) (Δ : Dl) : Prop := ∀ X H0 Z0, CtxOk c H0 Z0 X → ∀ σ H Z vs, Slots c.K H0 Z0 σ H Z Δ → Rps c.K Z vs xs →
  ∀ pins s us, Inv X pins σ H s → Vals vs us → wpAny (model X.prog X.w) X.A (assignInOrder ((assignEach ts X.env).map (·.2)) us) (fun _ s' => ∃ σ' H', Inv X pins σ' H' s' ∧ ∃ Z' Δ', Stp H Z H' Z' ∧ Slots c.K H0 Z0 σ' H' Z' Δ' ∧ (σ'.length = σ.length ∧ ∀ i, i ∉ js → σ'[i]? = σ[i]?) ∧ Q Δ') X.xe s
theorem wgs_nil {Q : Dl → Prop} (q : Q Δ) : WGs c js [] [] Q Δ := fun X H0 Z0 hX σ H Z vs hS r pins s us I rv => by
  cases r; cases rv
  exact assignInOrder_nil ⟨σ, H, I, Z, Δ, .refl hS.ok, hS, ⟨rfl, fun _ _ => rfl⟩, q⟩
theorem each1 {e : Expr} {es : List Expr} {env : Env} (h : isStar e = false) : assignEach (e :: es) env = (false, assign e env) :: assignEach es env := by
  cases e <;> first | rfl | cases h
theorem wgs_cons {ts : List Expr} {x : D} {xs : List D} {Q : Dl → Prop} (h : WG c js e x (fun Δ' => WGs c js ts xs Q Δ') Δ) (hs : isStar e = false := by rfl) : WGs c js (e :: ts) (x :: xs) Q Δ := fun X H0 Z0 hX σ H Z vs hS r pins s us I rv => by
  cases r with
  | cons r t =>
    cases rv with
    | cons rv rt =>
      rw [each1 hs]
      refine assignInOrder_cons (thn (h X H0 Z0 hX σ H Z _ hS r pins s _ I rv) fun _ s1 ⟨σ1, H1, I1, Z1, Δ1, s1', hS1, ks, q⟩ => ?_)
      exact thn (q X H0 Z0 hX σ1 H1 Z1 _ hS1 (t.le s1'.le) pins s1 _ I1 rt) fun _ s2 ⟨σ2, H2, I2, Z2, Δ2, s2', hS2, ks2, q2⟩ => ⟨σ2, H2, I2, Z2, Δ2, s1'.trans s2', hS2, ⟨ks2.1.trans ks.1, fun i hi => (ks2.2 i hi).trans (ks.2 i hi)⟩, q2⟩
theorem eachLen : ∀ {ts : List Expr} {env : Env}, (assignEach ts env).length = ts.length
  | [], _ => rfl
  | t :: ts, env => by
    cases t <;> exact congrArg (· + 1) (eachLen (ts := ts))
theorem eachNo : ∀ {ts : List Expr} {env : Env}, ts.any isStar = false → (assignEach ts env).findIdx? (·.1) = none
  | [], _, _ => rfl
  | t :: ts, env, h => by
    rw [List.any_cons, Bool.or_eq_false_iff] at h
    rw [each1 h.1, List.findIdx?_cons]
    show (if false = true then _ else _) = _
    rw [if_neg Bool.false_ne_true, eachNo h.2]
    rfl
theorem wg_tup {ts : List Expr} {k : Nat} {xs : List D} {Q : Dl → Prop} (hl : ts.length = xs.length) (h : WGs c js ts xs Q Δ) (hs : ts.any isStar = false := by rfl) (hh : c.hot = none := by rfl) : WG c js (.Tuple ts k pos) (.tup xs) Q Δ := fun X H0 Z0 hX σ H Z v hS r => by
  obtain ⟨p, vs, rfl, hp, _, rr⟩ := r.tup_inv hS.ok
  refine Wg.of (pg_tup (hX.calm hh) (t := fun vs' σ' H' Q' => vs' = vs ∧ σ' = σ ∧ H' = H ∧ ∀ σ2 H2, (∃ Z' Δ', Stp H Z H2 Z' ∧ Slots c.K H0 Z0 σ2 H2 Z' Δ' ∧ (σ2.length = σ.length ∧ ∀ i, i ∉ js → σ2[i]? = σ[i]?) ∧ Q Δ') → Q' σ2 H2)
    ⟨fun pins s σ' H' vs' us Q' I rv ⟨e1, e2, e3, kk⟩ => by
      subst e1; subst e2; subst e3
      exact thn (h X H0 Z0 hX _ _ Z _ hS rr pins s us I rv) fun _ s2 ⟨σ2, H2, I2, q⟩ => ⟨σ2, H2, I2, kk σ2 H2 q⟩⟩ eachLen (eachNo hs)) ?_
  exact ⟨p, vs, rfl, .of hp, by rw [rr.length, hl], rfl, rfl, rfl, fun _ _ q => q⟩

/-! ### what is walked -/
def Wi (X : Cx) (tg iter : Expr) : TI := fun σ H R => ∀ pins s, Inv X pins σ H s → wpAny (model X.prog X.w) X.A (eval iter X.env) (fun v s1 => wpAny (model X.prog X.w) X.A (pyIter v) (PIE X pins σ tg R) X.xe s1) X.xe s
theorem pi_wi {X : Cx} {tg iter : Expr} : PI X tg iter (Wi X tg iter) := ⟨fun pins s σ H R I h => h pins s I⟩
theorem Wi.of {X : Cx} {tg iter : Expr} {t : TI} {σ : L2.St} {H : Hp} {R} (h : PI X tg iter t) (q : t σ H R) : Wi X tg iter σ H R := fun pins s I => h.run pins s σ H R I q
theorem Wi.mono {X : Cx} {tg iter : Expr} {σ : L2.St} {H : Hp} {R R' : It → Hp → Prop} (h : Wi X tg iter σ H R) (k : ∀ J H', R J H' → R' J H') : Wi X tg iter σ H R' := fun pins s I =>
  thn (h pins s I) fun v s1 h1 => thn h1 fun itv s2 ⟨it, fp, tn, J, H', e, I', T, t0, f, r⟩ => ⟨it, fp, tn, J, H', e, I', T, t0, f, k J H' r⟩
/-- the iterator gives the items, whatever happens meanwhile -/
def Yl (K : PySem.W.Frag) (J : It) (H : Hp) (Z : Sh) (items : List D) : Prop := ∀ H' Z', Le Z Z' → OkZ H' Z' → ∀ i,
  (∀ x, items[i]? = some x → J.go i H' ∧ ∀ v H'', J.yld i H' v H'' → ∃ Z'', Stp H' Z' H'' Z'' ∧ Rp K Z'' v x) ∧ (items[i]? = none → J.stop i H')
def WI (c : Cf) (tg iter : Expr) (Q : List D → Prop) (Δ : Dl) : Prop := ∀ X H0 Z0, CtxOk c H0 Z0 X → ∀ σ H Z, Slots c.K H0 Z0 σ H Z Δ → Wi X tg iter σ H (fun J H' => ∃ Z' items, Stp H Z H' Z' ∧ Yl c.K J H' Z' items ∧ Q items)
theorem fz_at {H' : Hp} {Z Z' : Sh} {p : Addr} {o : HO} (le : Le Z Z') (ok : OkZ H' Z') (z : Z p = some (fz o)) : H' p = some o := by
  obtain ⟨u, hu, hf⟩ := ok p _ (le p _ z)
  have hf : u = o := hf
  rw [hu, hf]
theorem sqL_inj {K : PySem.W.Frag} {H : Hp} {a : Addr} {xs ys : List V} (hk : K.lookup a = none) (h : H a = some (.lst xs)) (h' : SqL K H a ys) : ys = xs := by
  rcases h' with (h' | ⟨o, h'⟩) | ⟨o, its, n, e, _⟩
  · rw [h] at h'; cases h'; rfl
  · rw [h] at h'; cases h'
  · rw [hk] at e; cases e
theorem wi_lst {tg : Expr} {Q : List D → Prop} (h : WE c e (fun d => ∃ ds, d = .lst ds ∧ Q ds) Δ) : WI c tg e Q Δ := fun X H0 Z0 hX σ H Z hS => by
  refine Wi.of (pi_list pe_we) ((h X H0 Z0 hX σ H Z hS).mono fun v H1 ⟨Z1, d, s1, r1, ds, ed, q⟩ => ?_)
  subst ed
  obtain ⟨p, vs, rfl, hp, zp, rr⟩ := r1.lst_inv s1.ok
  refine ⟨p, rfl, ⟨vs, .of hp⟩, Z1, ds, s1, fun H' Z' le ok i => ⟨fun x hx => ?_, fun hn => ?_⟩, q⟩
  · have hp' := fz_at le ok zp
    obtain ⟨w, hw, rw'⟩ := rr.get hx
    exact ⟨⟨vs, w, .of hp', hw⟩, fun v H'' ⟨e, k⟩ => by
      subst e
      have := k vs (.of hp')
      rw [hw] at this; cases this
      exact ⟨Z', .refl ok, rw'.le le⟩⟩
  · exact ⟨vs, .of (fz_at le ok zp), by rw [rr.length]; exact List.getElem?_eq_none_iff.mp hn⟩
theorem wi_tup {tg : Expr} {Q : List D → Prop} (h : WE c e (fun d => ∃ ds, d = .tup ds ∧ Q ds) Δ) : WI c tg e Q Δ := fun X H0 Z0 hX σ H Z hS => by
  refine Wi.of (pi_tup pe_we) ((h X H0 Z0 hX σ H Z hS).mono fun v H1 ⟨Z1, d, s1, r1, ds, ed, q⟩ => ?_)
  subst ed
  obtain ⟨p, vs, rfl, hp, zp, rr⟩ := r1.tup_inv s1.ok
  refine ⟨p, rfl, ⟨vs, .of hp⟩, Z1, ds, s1, fun H' Z' le ok i => ⟨fun x hx => ?_, fun hn => ?_⟩, q⟩
  · have hp' := fz_at le ok zp
    obtain ⟨w, hw, rw'⟩ := rr.get hx
    exact ⟨⟨vs, w, .of hp', hw⟩, fun v H'' ⟨e, k⟩ => by
      subst e
      have := k vs (.of hp')
      rw [hw] at this; cases this
      exact ⟨Z', .refl ok, rw'.le le⟩⟩
  · exact ⟨vs, .of (fz_at le ok zp), by rw [rr.length]; exact List.getElem?_eq_none_iff.mp hn⟩
def rng (lo : Int) (n : Nat) : List D := (List.range n).map fun i => .int (lo + (i : Nat))
theorem rng_get {lo : Int} {n i : Nat} (h : i < n) : (rng lo n)[i]? = some (.int (lo + (i : Nat))) := by
  unfold rng; rw [List.getElem?_map, List.getElem?_range h]; rfl
theorem rng_len (lo : Int) (n : Nat) : (rng lo n).length = n := by unfold rng; rw [List.length_map, List.length_range]
theorem yl_range {K : PySem.W.Frag} {H : Hp} {Z : Sh} {lo : Int} {n : Nat} : Yl K (Itr lo n) H Z (rng lo n) := fun H' Z' le ok i => ⟨fun x hx => by
    have hi : i < n := by have := (List.getElem?_eq_some_iff.mp hx).1; rwa [rng_len] at this
    rw [rng_get hi] at hx; cases hx
    exact ⟨hi, fun v H'' ⟨e1, e2⟩ => by subst e1; subst e2; exact ⟨Z', .refl ok, .int⟩⟩, fun hn => by
    have := List.getElem?_eq_none_iff.mp hn; rw [rng_len] at this; exact this⟩
theorem wi_range1 {tg : Expr} {p : Pos} {Q : List D → Prop} (hg : Glo c "range") (hm : c.mg "range" = none) (h : WE c a (fun d => ∃ n, d = .int n ∧ (-(2 ^ 62) ≤ n ∧ n < 2 ^ 62) ∧ Q (rng 0 n.toNat)) Δ) (hs : isStar a = false := by rfl) : WI c tg (.Call (.Name "range" p) [a] [] pos) Q Δ := fun X H0 Z0 hX σ H Z hS => by
  refine Wi.of (pi_range1 (hX.gl hg) (by rw [hX.mg]; exact hm) (pa_cons pe_we pa_nil (star1 hs)) (by rw [star1 hs]; rfl)) ?_
  exact (h X H0 Z0 hX σ H Z hS).mono fun v H1 ⟨Z1, d, s1, r1, n, ed, hn, q⟩ => by
    subst ed; cases r1
    exact ⟨n, rfl, hn.1, hn.2, Z1, _, s1, yl_range, q⟩
theorem wi_range2 {tg : Expr} {p : Pos} {Q : List D → Prop} (hg : Glo c "range") (hm : c.mg "range" = none) (h : WE c a (fun d => ∃ m, d = .int m ∧ WE c b (fun d => ∃ n, d = .int n ∧ (-(2 ^ 62) ≤ m ∧ m < 2 ^ 62 ∧ -(2 ^ 62) ≤ n ∧ n < 2 ^ 62) ∧ Q (rng m (n - m).toNat)) Δ) Δ) (hs : isStar a = false := by rfl) (hs2 : isStar b = false := by rfl) :
    WI c tg (.Call (.Name "range" p) [a, b] [] pos) Q Δ := fun X H0 Z0 hX σ H Z hS => by
  refine Wi.of (pi_range2 (hX.gl hg) (by rw [hX.mg]; exact hm) (pa_cons pe_we (pa_cons pe_we pa_nil (star1 hs2)) (star1 hs)) (by rw [star1 hs, star1 hs2]; rfl) (by rw [star1 hs2]; rfl)) ?_
  refine (h X H0 Z0 hX σ H Z hS).mono fun v H1 ⟨Z1, d, s1, r1, m, ed, q1⟩ => ?_
  subst ed; cases r1
  exact (q1 X H0 Z0 hX σ H1 Z1 (hS.step s1)).mono fun u H2 ⟨Z2, d2, s2, r2, n, ed2, hn, q⟩ => by
    subst ed2; cases r2
    exact ⟨m, n, rfl, hn, Z2, _, s1.trans s2, yl_range, q⟩
def signs (x : Str) : List D := x.cps.toList.map fun k => .str ⟨#[k]⟩
theorem wi_str {tg : Expr} {Q : List D → Prop} (h : WE c e (fun d => ∃ x, d = .str x ∧ Q (signs x)) Δ) : WI c tg e Q Δ := fun X H0 Z0 hX σ H Z hS => by
  refine Wi.of (pi_str pe_we) ((h X H0 Z0 hX σ H Z hS).mono fun v H1 ⟨Z1, d, s1, r1, x, ed, q⟩ => ?_)
  subst ed; cases r1
  refine ⟨x, rfl, Z1, _, s1, fun H' Z' le ok i => ⟨fun y hy => ?_, fun hn => ?_⟩, q⟩
  · have hi : i < x.cps.size := by have := (List.getElem?_eq_some_iff.mp hy).1; simpa [signs] using this
    refine ⟨hi, fun v H'' ⟨e1, k, e2, e3⟩ => ?_⟩
    subst e1; subst e3
    have : (signs x)[i]? = some (.str ⟨#[k]⟩) := by
      unfold signs; rw [List.getElem?_map, Array.getElem?_toList, e2]; rfl
    rw [hy] at this; cases this
    exact ⟨Z', .refl ok, .str⟩
  · have := List.getElem?_eq_none_iff.mp hn
    show x.cps.size ≤ i
    simpa [signs] using this
/-- pairs, each a new tuple -/
def pairs (xs ys : List D) : List D := (xs.zip ys).map fun p => .tup [p.1, p.2]
theorem pairs_get {xs ys : List D} {i : Nat} {d : D} (h : (pairs xs ys)[i]? = some d) : ∃ x y, xs[i]? = some x ∧ ys[i]? = some y ∧ d = .tup [x, y] := by
  unfold pairs at h
  rw [List.getElem?_map] at h
  cases e : (xs.zip ys)[i]? with
  | none => rw [e] at h; cases h
  | some p =>
    rw [e] at h; cases h
    have := List.getElem?_zip_eq_some.mp e
    exact ⟨p.1, p.2, this.1, this.2, rfl⟩
theorem pairs_none {xs ys : List D} {i : Nat} (h : (pairs xs ys)[i]? = none) : xs.length ≤ i ∨ ys.length ≤ i := by
  have := List.getElem?_eq_none_iff.mp h
  unfold pairs at this
  rw [List.length_map, List.length_zip] at this
  omega
theorem wi_zip {ts : List Expr} {kk : Nat} {tpos p : Pos} {Q : List D → Prop} (hg : Glo c "zip") (hm : c.mg "zip" = none)
    (h : WE c a (fun x => WE c b (fun y => (∃ xs ys, x = .lst xs ∧ y = .lst ys ∧ Q (pairs xs ys)) ∨ ∃ xs ys, x = .tup xs ∧ y = .tup ys ∧ Q (pairs xs ys)) Δ) Δ) (hs : isStar a = false := by rfl) (hs2 : isStar b = false := by rfl) :
    WI c (.Tuple ts kk tpos) (.Call (.Name "zip" p) [a, b] [] pos) Q Δ := fun X H0 Z0 hX σ H Z hS => by
  refine Wi.of (RZ.pi_zipA (hX.gl hg) (by rw [hX.mg]; exact hm) (pa_cons pe_we (pa_cons pe_we pa_nil (star1 hs2)) (star1 hs)) (star1 hs) (by rw [star1 hs2]; rfl)) ?_
  refine (h X H0 Z0 hX σ H Z hS).mono fun v H1 ⟨Z1, x, s1, r1, q1⟩ => ?_
  refine (q1 X H0 Z0 hX σ H1 Z1 (hS.step s1)).mono fun u H2 ⟨Z2, y, s2, r2, q⟩ => ?_
  have r1' := r1.le s2.le
  rcases q with ⟨xs, ys, rfl, rfl, q⟩ | ⟨xs, ys, rfl, rfl, q⟩
  · obtain ⟨pa, vs, rfl, hp, zp, rr⟩ := r1'.lst_inv s2.ok
    obtain ⟨pb, ws, rfl, hp2, zp2, rr2⟩ := r2.lst_inv s2.ok
    refine ⟨pa, pb, vs, ws, rfl, .inl ⟨.of hp, .of hp2, Z2, _, s1.trans s2, fun H' Z' le ok i => ⟨fun d hd => ?_, fun hn => ?_⟩, q⟩⟩
    · obtain ⟨x, y, hx, hy, rfl⟩ := pairs_get hd
      obtain ⟨xv, hxv, rx⟩ := rr.get hx
      obtain ⟨yv, hyv, ry⟩ := rr2.get hy
      have h1 := fz_at le ok zp
      have h2 := fz_at le ok zp2
      refine ⟨⟨vs, ws, xv, yv, .of h1, .of h2, hxv, hyv⟩, fun v H'' ⟨T, x', y', ev, hT, eH, k1, k2⟩ => ?_⟩
      have a1 := k1 vs (.of h1)
      have a2 := k2 ws (.of h2)
      rw [hxv] at a1; rw [hyv] at a2
      cases a1; cases a2
      subst ev; subst eH
      have st : Stp H' Z' (upd H' T (.tup [xv, yv])) (shr Z' T (fz (.tup [xv, yv]))) := .newS ok hT rfl
      exact ⟨_, st, .tup shr_same (.cons ((rx.le le).le st.le) (.cons ((ry.le le).le st.le) .nil))⟩
    · refine ⟨vs, ws, .of (fz_at le ok zp), .of (fz_at le ok zp2), ?_⟩
      rw [rr.length, rr2.length]; exact pairs_none hn
  · obtain ⟨pa, vs, rfl, hp, zp, rr⟩ := r1'.tup_inv s2.ok
    obtain ⟨pb, ws, rfl, hp2, zp2, rr2⟩ := r2.tup_inv s2.ok
    refine ⟨pa, pb, vs, ws, rfl, .inr ⟨.of hp, .of hp2, Z2, _, s1.trans s2, fun H' Z' le ok i => ⟨fun d hd => ?_, fun hn => ?_⟩, q⟩⟩
    · obtain ⟨x, y, hx, hy, rfl⟩ := pairs_get hd
      obtain ⟨xv, hxv, rx⟩ := rr.get hx
      obtain ⟨yv, hyv, ry⟩ := rr2.get hy
      have h1 := fz_at le ok zp
      have h2 := fz_at le ok zp2
      refine ⟨⟨vs, ws, xv, yv, .of h1, .of h2, hxv, hyv⟩, fun v H'' ⟨T, x', y', ev, hT, eH, k1, k2⟩ => ?_⟩
      have a1 := k1 vs (.of h1)
      have a2 := k2 ws (.of h2)
      rw [hxv] at a1; rw [hyv] at a2
      cases a1; cases a2
      subst ev; subst eH
      have st : Stp H' Z' (upd H' T (.tup [xv, yv])) (shr Z' T (fz (.tup [xv, yv]))) := .newS ok hT rfl
      exact ⟨_, st, .tup shr_same (.cons ((rx.le le).le st.le) (.cons ((ry.le le).le st.le) .nil))⟩
    · refine ⟨vs, ws, .of (fz_at le ok zp), .of (fz_at le ok zp2), ?_⟩
      rw [rr.length, rr2.length]; exact pairs_none hn
def enums (xs : List D) : List D := pairs (rng 0 xs.length) xs
theorem wi_enumL {ts : List Expr} {kk : Nat} {tpos p : Pos} {Q : List D → Prop} (hg : Glo c "enumerate") (hm : c.mg "enumerate" = none)
    (h : WE c a (fun x => ∃ xs, x = .lst xs ∧ Q (enums xs)) Δ) (hs : isStar a = false := by rfl) : WI c (.Tuple ts kk tpos) (.Call (.Name "enumerate" p) [a] [] pos) Q Δ := fun X H0 Z0 hX σ H Z hS => by
  refine Wi.of (pi_enum (hX.gl hg) (by rw [hX.mg]; exact hm) (pa_cons pe_we pa_nil (star1 hs)) (by rw [star1 hs]; rfl)) ?_
  refine (h X H0 Z0 hX σ H Z hS).mono fun v H1 ⟨Z1, x, s1, r1, xs, ex, q⟩ => ?_
  subst ex
  obtain ⟨pa, vs, rfl, hp, zp, rr⟩ := r1.lst_inv s1.ok
  refine ⟨pa, vs, rfl, .of hp, Z1, _, s1, fun H' Z' le ok i => ⟨fun d hd => ?_, fun hn => ?_⟩, q⟩
  · obtain ⟨x, y, hx, hy, rfl⟩ := pairs_get hd
    have hi : i < xs.length := (List.getElem?_eq_some_iff.mp hy).1
    rw [rng_get hi] at hx; cases hx
    obtain ⟨yv, hyv, ry⟩ := rr.get hy
    have h1 := fz_at le ok zp
    refine ⟨⟨vs, yv, .of h1, hyv⟩, fun v H'' ⟨T, y', ev, hT, eH, k1⟩ => ?_⟩
    have a1 := k1 vs (.of h1)
    rw [hyv] at a1; cases a1
    subst ev; subst eH
    have st : Stp H' Z' (upd H' T (.tup [.int (i : Nat), yv])) (shr Z' T (fz (.tup [.int (i : Nat), yv]))) := .newS ok hT rfl
    rw [Int.zero_add]
    exact ⟨_, st, .tup shr_same (.cons .int (.cons ((ry.le le).le st.le) .nil))⟩
  · refine ⟨vs, .of (fz_at le ok zp), ?_⟩
    rw [rr.length]
    rcases pairs_none hn with q | q
    · rw [rng_len] at q; exact q
    · exact q
end
end DL
end
section
set_option Elab.async false
set_option linter.all false
set_option maxRecDepth 100000
set_option maxHeartbeats 4000000
/-! DL5: comprehensions, statements, defs. -/
namespace DL
open PySem PySem.Spec PyProof.Rows L2

/-! ### list comprehensions -/
/-- the scope of a comprehension's block: what the def has as a cell is one -/
def blkSc (scope sc : Scope) : Scope := { scope with names := scope.names.map fun (n, k) => if (k == NameKind.free && sc.kind == .function && sc.names.lookup n == some .cell) then (n, NameKind.cell) else (n, k) }
def Cf.blk (c : Cf) (scope : Scope) : Cf := { c with sc := blkSc scope c.sc, W := fun _ => False, lam := c.lam.map fun L => ⟨L.T, none⟩, st := fun x => scope.names.lookup x == some .local || scope.names.lookup x == some .cell }
def wipeD (Δ : Dl) : List Nat → Dl
  | [] => Δ
  | v :: vs => (wipeD Δ vs).set v none
section
variable {c : Cf} {e a b : Expr} {es : List Expr} {Q : D → Prop} {Δ : Dl} {pos : Pos} {js : List Nat}
theorem Slots.wipe {K : PySem.W.Frag} {H0 : Hp} {Z0 : Sh} {σ : L2.St} {H : Hp} {Z : Sh} (h : Slots K H0 Z0 σ H Z Δ) : ∀ vs : List Nat, Slots K H0 Z0 (wipe σ vs) H Z (wipeD Δ vs)
  | [] => h
  | v :: vs => by
    have ih := Slots.wipe h vs
    unfold L2.wipe wipeD
    refine ⟨ih.ok0, ih.stp, by simp [ih.len], fun j d q => ?_, fun j j' d1 d2 l q1 q2 o1 o2 s1 s2 => ?_⟩
    · rcases setAt q with ⟨_, e, _⟩ | ⟨hj, q⟩
      · cases e
      · obtain ⟨w, e1, r⟩ := ih.at_ j d q
        exact ⟨w, by rw [List.getElem?_set_ne hj]; exact e1, r⟩
    · rcases setAt q1 with ⟨_, e, _⟩ | ⟨h1, q1⟩
      · cases e
      · rcases setAt q2 with ⟨_, e, _⟩ | ⟨h2, q2⟩
        · cases e
        · rw [List.getElem?_set_ne h1] at s1
          rw [List.getElem?_set_ne h2] at s2
          exact ih.sep j j' d1 d2 l q1 q2 o1 o2 s1 s2
theorem wipe_get {σ : L2.St} : ∀ {vs : List Nat} {i : Nat}, i ∉ vs → (wipe σ vs)[i]? = σ[i]?
  | [], _, _ => rfl
  | v :: vs, i, h => by
    unfold L2.wipe
    rw [List.getElem?_set_ne (fun e => h (by rw [e]; exact List.mem_cons_self)), wipe_get fun m => h (List.mem_cons_of_mem _ m)]
theorem wipe_in {σ : L2.St} : ∀ {vs : List Nat} {i : Nat}, i ∈ vs → i < σ.length → (wipe σ vs)[i]? = some none
  | [], _, h, _ => by cases h
  | v :: vs, i, h, hl => by
    unfold L2.wipe
    by_cases e : v = i
    · subst e
      rw [List.getElem?_set_self (by rw [wipe_length]; exact hl)]
    · rw [List.getElem?_set_ne e]
      exact wipe_in ((List.mem_cons.mp h).resolve_left fun q => e q.symm) hl
theorem wipe_same {σ τ : L2.St} {vs : List Nat} (hl : τ.length = σ.length) (h : ∀ i, i ∉ vs → τ[i]? = σ[i]?) : wipe τ vs = wipe σ vs := by
  apply List.ext_getElem?
  intro i
  by_cases m : i ∈ vs
  · by_cases hi : i < σ.length
    · rw [wipe_in m hi, wipe_in m (by rw [hl]; exact hi)]
    · rw [List.getElem?_eq_none_iff.mpr (by rw [wipe_length, hl]; omega), List.getElem?_eq_none_iff.mpr (by rw [wipe_length]; omega)]
  · rw [wipe_get m, wipe_get m, h i m]
/-- the tests of a clause: none, one -/
def WTs (c : Cf) (ifs : List Expr) (Q : Bool → Prop) (Δ : Dl) : Prop :=
  match ifs with
  | [] => Q true
  | [t] => WT c t Q Δ
  | _ => False
def Wts (X : Cx) (ifs : List Expr) : TT := fun σ H Q => ∀ pins s, Inv X pins σ H s →
  wpAny (model X.prog X.w) X.A (forIn ifs true fun c r => if r = true then do let ok ← isTrue c X.env (eval c X.env); pure (ForInStep.yield ok) else pure (ForInStep.yield r)) (TP X pins σ Q) X.xe s
theorem pts_we {X : Cx} {ifs : List Expr} : PTs X ifs (Wts X ifs) := ⟨fun pins s σ H Q I h => h pins s I⟩
theorem wts_run {ifs : List Expr} {Q : Bool → Prop} (h : WTs c ifs Q Δ) {X H0 Z0} (hX : CtxOk c H0 Z0 X) {σ : L2.St} {H : Hp} {Z : Sh} (hS : Slots c.K H0 Z0 σ H Z Δ) : Wts X ifs σ H (tPost H Z Q) := by
  match ifs, h with
  | [], h => exact fun pins s I => pts_nil.run pins s σ H _ I ⟨Z, .refl hS.ok, h⟩
  | [t], h => exact fun pins s I => (pts_one pt_we).run pins s σ H _ I ((show WT c t Q Δ from h) X H0 Z0 hX σ H Z hS)
theorem Wts.mono {X : Cx} {ifs : List Expr} {σ : L2.St} {H : Hp} {Q Q' : Bool → Hp → Prop} (h : Wts X ifs σ H Q) (k : ∀ b H', Q b H' → Q' b H') : Wts X ifs σ H Q' := fun pins s I =>
  thn (h pins s I) fun _ _ ⟨H', I', q⟩ => ⟨H', I', k _ H' q⟩
theorem lookup_blkL {sc : Scope} {x : Str} : ∀ {names : List (Str × NameKind)}, names.lookup x = some .local → (names.map fun (n, k) => if (k == NameKind.free && sc.kind == .function && sc.names.lookup n == some .cell) then (n, NameKind.cell) else (n, k)).lookup x = some .local
  | [], h => by simp at h
  | (n, k) :: r, h => by
    simp only [List.map_cons, List.lookup_cons] at h ⊢
    by_cases hc : (k == NameKind.free && sc.kind == .function && sc.names.lookup n == some .cell) = true
    · rw [if_pos hc, List.lookup_cons]
      cases q : (x == n) with
      | true =>
        rw [q] at h; cases h
        cases hc
      | false => rw [q] at h; exact lookup_blkL h
    · rw [if_neg hc, List.lookup_cons]
      cases q : (x == n) with
      | true => rw [q] at h; exact h
      | false => rw [q] at h; exact lookup_blkL h
theorem CtxOk.blk {H0 Z0 X} (hX : CtxOk c H0 Z0 X) (hh : c.hot = none) {scope : Scope} (s : Shared) (H : Hp) (C : Addr) (cl : List (Str × Addr)) (fp : List Addr) : CtxOk (c.blk scope) H0 Z0 (X.blk s H scope (compEnvC scope cl C X.env) fp) where
  P := hX.P
  w := hX.w
  K := hX.K
  mg := hX.mg
  base := hX.base
  N := hX.N
  sc := by
    show PySem.relabel scope X.env = blkSc scope c.sc
    rw [← hX.sc]; rfl
  calm := hX.calm
  su := fun a C dd z => by
    have z' : c.hot = some (a, C, dd) := z
    rw [hh] at z'; cases z'
  lm := fun L e => by
    have e' : (c.lam.map fun L => (⟨L.T, none⟩ : Lm)) = some L := e
    cases q : c.lam with
    | none => rw [q] at e'; cases e'
    | some L0 =>
      rw [q] at e'; cases e'
      exact ⟨(hX.lm L0 q).1, (hX.lm L0 q).2.1, fun _ _ _ z => nomatch z⟩
  room := hX.room
  nd := hX.nd
  fn := fun x hs _ => by
    have hs : (scope.names.lookup x == some .local || scope.names.lookup x == some .cell) = true := hs
    rw [Bool.or_eq_true] at hs
    rcases hs with h | h
    · exact .inr (lookup_blkL (beq_iff_eq.mp h))
    · exact .inl h
  tk := takes0.imp fun _ _ _ _ ⟨_, _, _, _, q⟩ => q.elim
def Bg (X : Cx) (scope : Scope) (tg : Expr) : TG := fun v σ H Q => ∀ s H' C cl fp, Wg (X.blk s H' scope (compEnvC scope cl C X.env) fp) tg v σ H Q
def Bt (X : Cx) (scope : Scope) (ifs : List Expr) : TT := fun σ H Q => ∀ s H' C cl fp, Wts (X.blk s H' scope (compEnvC scope cl C X.env) fp) ifs σ H Q
def Be (X : Cx) (scope : Scope) (elt : Expr) : TE := fun σ H Q => ∀ s H' C cl fp, We (X.blk s H' scope (compEnvC scope cl C X.env) fp) elt σ H Q
theorem pg_b {X : Cx} {scope : Scope} {tg : Expr} (s : Shared) (H' : Hp) (C : Addr) (cl : List (Str × Addr)) (fp : List Addr) : PG (X.blk s H' scope (compEnvC scope cl C X.env) fp) tg (Bg X scope tg) := ⟨fun pins s' σ' H2 v u Q' I r k => k s H' C cl fp pins s' u I r⟩
theorem pt_b {X : Cx} {scope : Scope} {ifs : List Expr} (s : Shared) (H' : Hp) (C : Addr) (cl : List (Str × Addr)) (fp : List Addr) : PTs (X.blk s H' scope (compEnvC scope cl C X.env) fp) ifs (Bt X scope ifs) := ⟨fun pins s' σ' H2 Q' I k => k s H' C cl fp pins s' I⟩
theorem pe_b {X : Cx} {scope : Scope} {elt : Expr} (s : Shared) (H' : Hp) (C : Addr) (cl : List (Str × Addr)) (fp : List Addr) : PE (X.blk s H' scope (compEnvC scope cl C X.env) fp) elt (Be X scope elt) := ⟨fun pins s' σ' H2 Q' I k => k s H' C cl fp pins s' I⟩
/-- a comprehension over a clause: I by what is gone through and what came of it -/
theorem lc_run {elt tg iter : Expr} {ifs : List Expr} {scope : Scope} {own : List (Str × Nat)}
    (h : WI c tg iter (fun items => items.length ≤ sizeLine ∧ ∃ I : List D → List D → Prop, I [] [] ∧
      (∀ pre x post acc, items = pre ++ x :: post → acc.length ≤ pre.length → I pre acc → WG (c.blk scope) (own.map (·.2)) tg x (fun Δ2 => WTs (c.blk scope) ifs (fun k => if k = true then WE (c.blk scope) elt (fun y => I (pre ++ [x]) (acc ++ [y])) Δ2 else I (pre ++ [x]) acc) Δ2) (wipeD Δ (own.map (·.2)))) ∧
      ∀ acc, acc.length ≤ items.length → I items acc → Q (.ol acc)) Δ)
    (hh : c.hot = none) {X H0 Z0} (hX : CtxOk c H0 Z0 X) {σ : L2.St} {H : Hp} {Z : Sh} (hS : Slots c.K H0 Z0 σ H Z Δ) :
    tLc (Wi X tg iter) (Bg X scope tg) (Bt X scope ifs) (Be X scope elt) (own.map (·.2)) σ H (oPost c.K H Z Q) := by
  refine (h X H0 Z0 hX σ H Z hS).mono fun J H1 ⟨Z1, items, s1, yl, hz, I, i0, turn, fin⟩ => fun Dl hD => ?_
  refine ⟨fun i m H' => m = items.length - i ∧ i ≤ items.length ∧ ∃ Z' vs acc, Stp H1 Z1 H' Z' ∧ Z' Dl = none ∧ H' Dl = some (.lst vs) ∧ Rps c.K Z' vs acc ∧ acc.length ≤ i ∧ I (items.take i) acc, ⟨items.length, by simp, Nat.zero_le _, Z1, [], [], .new s1.ok hD, s1.ok.none hD, upd_same, .nil, Nat.zero_le _, i0⟩, ?_⟩
  rintro i m H' ⟨rfl, hi, Z', vs, acc, st, zD, hD', rr, hl, ii⟩
  cases e : items[i]? with
  | none =>
    have hi' : i = items.length := by have := List.getElem?_eq_none_iff.mp e; omega
    subst hi'
    rw [List.take_length] at ii
    refine .inl ⟨(yl H' Z' st.le st.ok _).2 e, ?_⟩
    refine oPost.mono hS.ok s1 ⟨Z', .ol acc, st, .inr ⟨Dl, _, rfl, .of hD, zD, hD', .lst rr⟩, fin acc hl ii⟩
  | some x =>
    obtain ⟨go, yld⟩ := (yl H' Z' st.le st.ok i).1 x e
    have hlt : i < items.length := (List.getElem?_eq_some_iff.mp e).1
    have split : items = items.take i ++ x :: items.drop (i + 1) := by
      have h2 := (List.getElem?_eq_some_iff.mp e).2
      rw [← h2, ← List.drop_eq_getElem_cons hlt, List.take_append_drop]
    have snoc : items.take (i + 1) = items.take i ++ [x] := by
      have h2 := (List.getElem?_eq_some_iff.mp e).2
      rw [List.take_succ_eq_append_getElem hlt, h2]
    refine .inr ⟨go, fun H2 => i + 1 ≤ items.length ∧ ∃ Z' vs acc, Stp H1 Z1 H2 Z' ∧ Z' Dl = none ∧ H2 Dl = some (.lst vs) ∧ Rps c.K Z' vs acc ∧ acc.length ≤ i + 1 ∧ I (items.take (i + 1)) acc, fun H2 ⟨a1, a2⟩ => ⟨items.length - (i + 1), by omega, rfl, a1, a2⟩, fun v H2 y => ?_⟩
    obtain ⟨Z2, s2, rx⟩ := yld v H2 y
    have hS2 : Slots c.K H0 Z0 (wipe σ (own.map (·.2))) H2 Z2 (wipeD Δ (own.map (·.2))) := (((hS.step s1).step st).step s2).wipe _
    have hlen : (items.take i).length = i := by rw [List.length_take]; omega
    have tn := turn (items.take i) x (items.drop (i + 1)) acc split (by rw [hlen]; exact hl) ii
    intro s0 Hb C cl fp
    refine (tn _ H0 Z0 (hX.blk hh s0 Hb C cl fp) _ H2 Z2 v hS2 rx).mono fun σ3 H3 ⟨Z3, Δ3, s3, hS3, ks, q3⟩ => ⟨?_, ?_⟩
    · have e1 := wipe_same (σ := wipe σ (own.map (·.2))) (τ := σ3) ks.1 ks.2
      rw [e1]
      exact wipe_same (wipe_length _ _) fun i hi => wipe_get hi
    · intro s0 Hb C cl fp
      refine (wts_run q3 (hX.blk hh s0 Hb C cl fp) hS3).mono fun k H4 ⟨Z4, s4, q4⟩ => ?_
      have stp : Stp H1 Z1 H4 Z4 := ((st.trans s2).trans s3).trans s4
      have s234 := (s2.trans s3).trans s4
      have nl : Nbo (.lst vs) := ⟨fun ps e => (nomatch e), fun c q e => (nomatch (show _ = HO.ext _ from e)), fun vs e => (nomatch e)⟩
      have kept := s234.keep Dl _ hD' zD nl
      cases k with
      | true =>
        rw [if_pos rfl] at q4 ⊢
        intro s0 Hb C cl fp
        refine (q4 _ H0 Z0 (hX.blk hh s0 Hb C cl fp) _ H4 Z4 (hS3.step s4)).mono fun w H5 ⟨Z5, y, s5, ry, q5⟩ => ?_
        have k5 := s5.keep Dl _ kept.1 kept.2 nl
        have rr5 := (rr.le s234.le).le s5.le
        refine ⟨vs, k5.1, ?_, hlt, Z5, vs ++ [w], acc ++ [y], (stp.trans s5).own (.of hD) k5.2, k5.2, upd_same, rr5.append (.cons ry .nil), ?_, ?_⟩
        · rw [rr.length]; omega
        · rw [List.length_append]; show acc.length + 1 ≤ i + 1; omega
        · rw [snoc]; exact q5
      | false =>
        rw [if_neg Bool.false_ne_true] at q4 ⊢
        exact ⟨hlt, Z4, vs, acc, stp, kept.2, kept.1, rr.le s234.le, by omega, by rw [snoc]; exact q4⟩
/-- the side conditions of a block, by computation -/
def blkB (N : List Str) (sc scope : Scope) (own : List (Str × Nat)) : Bool :=
  scope.kind == .function && scope.names.all (fun y => scope.names.lookup y.1 == some y.2) && own.all (fun p => N[p.2]? == some p.1) &&
  scope.names.all (fun y => y.2 != .free || (sc.names.lookup y.1 == some .cell || sc.names.lookup y.1 == some .free)) &&
  scope.names.all (fun y => !(y.2 == .local || y.2 == .cell) || ((own.map (·.1)).contains y.1 || !N.contains y.1))
theorem blkOk_of {N : List Str} {sc scope : Scope} {own : List (Str × Nat)} (h : blkB N sc scope own = true) : BlkOk N sc scope own := by
  unfold blkB at h
  simp only [Bool.and_eq_true] at h
  obtain ⟨⟨⟨⟨h1, h2⟩, h3⟩, h4⟩, h5⟩ := h
  refine ⟨beq_iff_eq.mp h1, fun y hy => beq_iff_eq.mp (List.all_eq_true.mp h2 y hy), fun p hp => beq_iff_eq.mp (List.all_eq_true.mp h3 p hp), fun y hy e => ?_, fun y hy e => ?_⟩
  · have := List.all_eq_true.mp h4 y hy
    rw [e] at this
    have t : ((sc.names.lookup y.1 == some .cell || sc.names.lookup y.1 == some .free)) = true := this
    rw [Bool.or_eq_true] at t
    exact t.imp (fun q => beq_iff_eq.mp q) fun q => beq_iff_eq.mp q
  · have := List.all_eq_true.mp h5 y hy
    have e' : (y.2 == .local || y.2 == .cell) = true := by
      rcases e with e | e <;> rw [e] <;> rfl
    rw [e'] at this
    have t : ((own.map (·.1)).contains y.1 || !N.contains y.1) = true := this
    rw [Bool.or_eq_true] at t
    rcases t with t | t
    · exact .inl (List.contains_iff_mem.mp t)
    · right
      intro m
      rw [List.contains_iff_mem.mpr m] at t
      cases t
theorem wo_lc {elt tg iter : Expr} {ifs : List Expr} {scope : Scope} (own : List (Str × Nat)) (ok : blkB c.N c.sc scope own = true)
    (h : WI c tg iter (fun items => items.length ≤ sizeLine ∧ ∃ I : List D → List D → Prop, I [] [] ∧
      (∀ pre x post acc, items = pre ++ x :: post → acc.length ≤ pre.length → I pre acc → WG (c.blk scope) (own.map (·.2)) tg x (fun Δ2 => WTs (c.blk scope) ifs (fun k => if k = true then WE (c.blk scope) elt (fun y => I (pre ++ [x]) (acc ++ [y])) Δ2 else I (pre ++ [x]) acc) Δ2) (wipeD Δ (own.map (·.2)))) ∧
      ∀ acc, acc.length ≤ items.length → I items acc → Q (.ol acc)) Δ)
    (hs : ∀ env x, foldedSetIterable iter env x = pure x := by intro _ _; rfl) (hh : c.hot = none := by rfl) : WO c (.ListComp elt [⟨tg, iter, ifs, 0⟩] scope pos) Q Δ := fun X H0 Z0 hX σ H Z hS =>
  We.of (pe_lc (hX.calm hh) (by rw [hX.N]; exact hX.nd) pi_wi (by rw [hX.N, hX.sc]; exact blkOk_of ok) pg_b pt_b pe_b (hs X.env)) (lc_run h hh hX hS)
theorem we_lc {elt tg iter : Expr} {ifs : List Expr} {scope : Scope} (own : List (Str × Nat)) (ok : blkB c.N c.sc scope own = true)
    (h : WI c tg iter (fun items => items.length ≤ sizeLine ∧ ∃ I : List D → List D → Prop, I [] [] ∧
      (∀ pre x post acc, items = pre ++ x :: post → acc.length ≤ pre.length → I pre acc → WG (c.blk scope) (own.map (·.2)) tg x (fun Δ2 => WTs (c.blk scope) ifs (fun k => if k = true then WE (c.blk scope) elt (fun y => I (pre ++ [x]) (acc ++ [y])) Δ2 else I (pre ++ [x]) acc) Δ2) (wipeD Δ (own.map (·.2)))) ∧
      ∀ acc, acc.length ≤ items.length → I items acc → Q (.lst acc)) Δ)
    (hs : ∀ env x, foldedSetIterable iter env x = pure x := by intro _ _; rfl) (hh : c.hot = none := by rfl) : WE c (.ListComp elt [⟨tg, iter, ifs, 0⟩] scope pos) Q Δ := we_of_wo (wo_lc own ok h hs hh)
end
end DL
end
section
set_option Elab.async false
set_option linter.all false
set_option maxRecDepth 100000
set_option maxHeartbeats 4000000
/-! DL6: statements, defs. -/
namespace DL
open PySem PySem.Spec PyProof.Rows L2

/-- what is wanted behind statements -/
structure Te where
  nx : Dl → Prop
  rt : D → Dl → Prop
  bk : Dl → Prop := fun _ => False
  ct : Dl → Prop := fun _ => False
def liftE (K : PySem.W.Frag) (H0 : Hp) (Z0 Zs : Sh) (T : Te) : Ends where
  nx := fun σ H => ∃ Z Δ, Le Zs Z ∧ Slots K H0 Z0 σ H Z Δ ∧ T.nx Δ
  rt := fun v H => ∃ Z d σ Δ, Slots K H0 Z0 σ H Z Δ ∧ Rr K H0 H Z v d ∧ T.rt d Δ
  bk := fun σ H => ∃ Z Δ, Le Zs Z ∧ Slots K H0 Z0 σ H Z Δ ∧ T.bk Δ
  ct := fun σ H => ∃ Z Δ, Le Zs Z ∧ Slots K H0 Z0 σ H Z Δ ∧ T.ct Δ
structure CtxS (c : Cf) (H0 : Hp) (Z0 : Sh) (X : Cx) : Prop extends CtxOk c H0 Z0 X where
  own : PassesOwn (model X.prog X.w) X.A X.env X.xe
def WS (c : Cf) (st : Stmt) (T : Te) (Δ : Dl) : Prop := ∀ X H0 Z0, CtxS c H0 Z0 X → ∀ σ H Z, Slots c.K H0 Z0 σ H Z Δ → Ws X st (liftE c.K H0 Z0 Z T) σ H
def WB (c : Cf) (sts : List Stmt) (T : Te) (Δ : Dl) : Prop := ∀ X H0 Z0, CtxS c H0 Z0 X → ∀ σ H Z, Slots c.K H0 Z0 σ H Z Δ → Wss X sts (liftE c.K H0 Z0 Z T) σ H
section
variable {c : Cf} {e a b : Expr} {es : List Expr} {T : Te} {Δ : Dl} {pos : Pos} {st : Stmt} {sts : List Stmt}
theorem sp_mono {X : Cx} {pins : List (Addr × Obj)} {D D' : Ends} {f : Flow} {s' : Shared} (h : SP X pins D f s') (h1 : ∀ σ H, D.nx σ H → D'.nx σ H) (h2 : ∀ v H, D.rt v H → D'.rt v H) (h3 : ∀ σ H, D.bk σ H → D'.bk σ H) (h4 : ∀ σ H, D.ct σ H → D'.ct σ H) : SP X pins D' f s' := by
  cases f with
  | next => obtain ⟨σ', H', I, q⟩ := h; exact ⟨σ', H', I, h1 _ _ q⟩
  | brk => obtain ⟨σ', H', I, q⟩ := h; exact ⟨σ', H', I, h3 _ _ q⟩
  | cont => obtain ⟨σ', H', I, q⟩ := h; exact ⟨σ', H', I, h4 _ _ q⟩
  | ret u => obtain ⟨v, σ', H', I, r, q⟩ := h; exact ⟨v, σ', H', I, r, h2 _ _ q⟩
theorem lift_le {K : PySem.W.Frag} {H0 : Hp} {Z0 Z Z' : Sh} {X : Cx} {pins : List (Addr × Obj)} {f : Flow} {s' : Shared} (le : Le Z Z') (h : SP X pins (liftE K H0 Z0 Z' T) f s') : SP X pins (liftE K H0 Z0 Z T) f s' :=
  sp_mono h (fun _ _ ⟨Z2, Δ2, l, q⟩ => ⟨Z2, Δ2, le.trans l, q⟩) (fun _ _ q => q) (fun _ _ ⟨Z2, Δ2, l, q⟩ => ⟨Z2, Δ2, le.trans l, q⟩) fun _ _ ⟨Z2, Δ2, l, q⟩ => ⟨Z2, Δ2, le.trans l, q⟩
theorem Wss.le {K : PySem.W.Frag} {H0 : Hp} {Z0 Z Z' : Sh} {X : Cx} {σ : L2.St} {H : Hp} (le : Le Z Z') (h : Wss X sts (liftE K H0 Z0 Z' T) σ H) : Wss X sts (liftE K H0 Z0 Z T) σ H := fun pins s I => thn (h pins s I) fun _ _ q => lift_le le q
theorem wb_nil (q : T.nx Δ) : WB c [] T Δ := fun X H0 Z0 hX σ H Z hS => Wss.of pss_nil ⟨Z, Δ, .refl _, hS, q⟩
theorem wb_cons (h : WS c st { T with nx := fun Δ' => WB c sts T Δ' } Δ) : WB c (st :: sts) T Δ := fun X H0 Z0 hX σ H Z hS => by
  refine Wss.of (pss_cons ps_we pss_we) ?_
  intro pins s I
  refine thn (h X H0 Z0 hX σ H Z hS pins s I) fun f s' q => sp_mono q (fun σ' H' ⟨Z', Δ', le, hS', q'⟩ => ?_) (fun _ _ q => q) (fun _ _ q => q) fun _ _ q => q
  exact Wss.le le (q' X H0 Z0 hX σ' H' Z' hS')
/-- before a statement a thing of one's own is let go -/
theorem ws_freeze (i : Nat) {d : D} (hi : Δ[i]? = some (some d)) (ho : d.own = true) (h : WB c sts T (Δ.set i (some d.frz))) : WB c sts T Δ := fun X H0 Z0 hX σ H Z hS => by
  obtain ⟨Z', le, hS'⟩ := hS.freeze hi ho
  exact Wss.le le (h X H0 Z0 hX σ H Z' hS')
/-- what a slot holds is forgotten -/
theorem ws_drop (i : Nat) (h : WB c sts T (Δ.set i none)) : WB c sts T Δ := fun X H0 Z0 hX σ H Z hS => h X H0 Z0 hX σ H Z (hS.drop i)
theorem ws_pass (q : T.nx Δ) : WS c (.Pass pos) T Δ := fun X H0 Z0 hX σ H Z hS => Ws.of ps_pass ⟨Z, Δ, .refl _, hS, q⟩
theorem ws_break (q : T.bk Δ) : WS c (.Break pos) T Δ := fun X H0 Z0 hX σ H Z hS => Ws.of ps_break ⟨Z, Δ, .refl _, hS, q⟩
theorem ws_cont (q : T.ct Δ) : WS c (.Continue pos) T Δ := fun X H0 Z0 hX σ H Z hS => Ws.of ps_continue ⟨Z, Δ, .refl _, hS, q⟩
theorem Rr.base {K : PySem.W.Frag} {H0 H H' : Hp} {Z0 Z Z' : Sh} {v : V} {d : D} (ok0 : OkZ H0 Z0) (st : Stp H0 Z0 H Z) (r : Rr K H H' Z' v d) : Rr K H0 H' Z' v d := by
  rcases r with r | ⟨l, o, e, h0, z, hl, r⟩
  · exact .inl r
  · exact .inr ⟨l, o, e, st.freeF h0, z, hl, r⟩
theorem ws_ret (h : WO c e (fun d => T.rt d Δ) Δ) : WS c (.Return (some e) pos) T Δ := fun X H0 Z0 hX σ H Z hS =>
  Ws.of (ps_ret pe_we) ((h X H0 Z0 hX.toCtxOk σ H Z hS).mono fun v H1 ⟨Z1, d, s1, r1, q⟩ => ⟨Z1, d, σ, Δ, hS.step s1, r1.base hS.ok0 hS.stp, q⟩)
theorem ws_retN (q : T.rt .non Δ) : WS c (.Return none pos) T Δ := fun X H0 Z0 hX σ H Z hS => Ws.of ps_retN ⟨Z, .non, σ, Δ, hS, .inl .non, q⟩
/-- return of a thing of one's own -/
theorem ws_retO (i : Nat) {x : Str} {d : D} {p2 : Pos} (hN : c.N[i]? = some x) (hv : Vis c.sc x) (hi : Δ[i]? = some (some d)) (q : T.rt d Δ)
    (hd : (x == ("__debug__" : Str)) = false := by decide) (hcd : (x == ("__classdict__" : Str)) = false := by decide) : WS c (.Return (some (.Name x p2)) pos) T Δ := fun X H0 Z0 hX σ H Z hS => by
  obtain ⟨v, e1, r⟩ := hS.at_ i d hi
  exact Ws.of (ps_ret (pe_var (i := i) (by rw [hX.N]; exact hN) (by rw [hX.sc]; exact hv) hd hcd)) ⟨v, e1, Z, d, σ, Δ, hS, r, q⟩
theorem ws_expr {Q : D → Prop} (h : WO c e (fun _ => T.nx Δ) Δ) (hs : ∀ env, swapsWith e none pos.line env = pure false := by intro _; rfl) : WS c (.Expr e pos) T Δ := fun X H0 Z0 hX σ H Z hS =>
  Ws.of (ps_expr pe_we (hs _)) ((h X H0 Z0 hX.toCtxOk σ H Z hS).mono fun v H1 ⟨Z1, d, s1, r1, q⟩ => ⟨Z1, Δ, s1.le, hS.step s1, q⟩)
theorem ws_doc {x j pos'} (q : T.nx Δ) : WS c (.Expr (.Constant (.str x) j pos) pos') T Δ := fun X H0 Z0 hX σ H Z hS => Ws.of ps_doc ⟨Z, Δ, .refl _, hS, q⟩
theorem ws_if {t : Expr} {A B : List Stmt} (h : WT c t (fun k => if k = true then WB c A T Δ else WB c B T Δ) Δ) : WS c (.If t A B pos) T Δ := fun X H0 Z0 hX σ H Z hS => by
  refine Ws.of (ps_if pt_we pss_we pss_we) ((h X H0 Z0 hX.toCtxOk σ H Z hS).mono fun k H1 ⟨Z1, s1, q⟩ => ?_)
  cases k with
  | true =>
    rw [if_pos rfl] at q ⊢
    exact Wss.le s1.le (q X H0 Z0 hX σ H1 Z1 (hS.step s1))
  | false =>
    rw [if_neg Bool.false_ne_true] at q ⊢
    exact Wss.le s1.le (q X H0 Z0 hX σ H1 Z1 (hS.step s1))
/-- a statement, then the rest, with a word between them -/
theorem wb_cut (Mid : Dl → Prop) (h : WS c st { T with nx := Mid } Δ) (k : ∀ Δ', Mid Δ' → WB c sts T Δ') : WB c (st :: sts) T Δ := wb_cons fun X H0 Z0 hX σ H Z hS pins s I =>
  thn (h X H0 Z0 hX σ H Z hS pins s I) fun f s' q => sp_mono q (fun σ' H' ⟨Z', Δ', le, hS', q'⟩ => ⟨Z', Δ', le, hS', k Δ' q'⟩) (fun _ _ q => q) (fun _ _ q => q) fun _ _ q => q

/-! ### assignments -/
theorem CtxOk.loc {H0 Z0 X} (hX : CtxOk c H0 Z0 X) {x : Str} (hx : Loc c.sc x) : Loc X.env.scope x := by rw [hX.sc]; exact hx
/-- name = e, e no comprehension -/
theorem ws_set (i : Nat) {x : Str} {p : Pos} (hi : c.N[i]? = some x) (hx : Loc c.sc x) (h : WO c e (fun d => T.nx (Δ.set i (some d))) Δ) (hs : ∀ env, swapsWith e (some (.Name x p)) pos.line env = pure false := by intro _; rfl) (hst : c.st x = true := by rfl) :
    WS c (.Assign [.Name x p] e pos) T Δ := fun X H0 Z0 hX σ H Z hS =>
  Ws.of (ps_set (by rw [hX.N]; exact hX.nd) (by rw [hX.N]; exact hi) (hX.loc hx) pe_we (hs _) (by rw [hX.sc]; exact hX.fn x hst hx))
    ((h X H0 Z0 hX.toCtxOk σ H Z hS).mono fun v H1 ⟨Z1, d, s1, r1, q⟩ => ⟨Z1, _, s1.le, hS.setO s1 i r1, q⟩)
theorem swaps_cell {elt : Expr} {gs : List Comprehension} {scope : Scope} {p1 p : Pos} {x : Str} {line : Nat} {env : Env} (h : env.scope.names.lookup x = some .cell) : swapsWith (.ListComp elt gs scope p1) (some (.Name x p)) line env = pure false := by
  show (pure (env.blockKind == .function && env.kindOf x == some .local && p.line == p1.line && _) : Sem Bool) = pure false
  have e : env.kindOf x = some .cell := h
  rw [e, show (some NameKind.cell == some NameKind.local) = false from rfl, Bool.and_false, Bool.false_and, Bool.false_and]
/-- name = [..], the name captured elsewhere -/
theorem ws_setCell (i : Nat) {x : Str} {p p1 : Pos} {elt : Expr} {gs : List Comprehension} {scope : Scope} (hi : c.N[i]? = some x) (hx : c.sc.names.lookup x = some .cell) (h : WO c (.ListComp elt gs scope p1) (fun d => T.nx (Δ.set i (some d))) Δ) (hst : c.st x = true := by rfl) :
    WS c (.Assign [.Name x p] (.ListComp elt gs scope p1) pos) T Δ := fun X H0 Z0 hX σ H Z hS =>
  Ws.of (ps_set (by rw [hX.N]; exact hX.nd) (by rw [hX.N]; exact hi) (hX.loc (.inr hx)) pe_we (swaps_cell (by rw [hX.sc]; exact hx)) (by rw [hX.sc]; exact hX.fn x hst (.inr hx)))
    ((h X H0 Z0 hX.toCtxOk σ H Z hS).mono fun v H1 ⟨Z1, d, s1, r1, q⟩ => ⟨Z1, _, s1.le, hS.setO s1 i r1, q⟩)
/-- name = [..], the name a local, on one line -/
theorem ws_setLc (i : Nat) {x : Str} {p p1 : Pos} {elt tg iter : Expr} {ifs : List Expr} {scope : Scope} (own : List (Str × Nat)) (ok : blkB c.N c.sc scope own = true) (hi : c.N[i]? = some x) (hx : c.sc.names.lookup x = some .local)
    (h : WI c tg iter (fun items => items.length ≤ sizeLine ∧ ∃ I : List D → List D → Prop, I [] [] ∧
      (∀ pre x post acc, items = pre ++ x :: post → acc.length ≤ pre.length → I pre acc → WG (c.blk scope) (own.map (·.2)) tg x (fun Δ2 => WTs (c.blk scope) ifs (fun k => if k = true then WE (c.blk scope) elt (fun y => I (pre ++ [x]) (acc ++ [y])) Δ2 else I (pre ++ [x]) acc) Δ2) (wipeD Δ (own.map (·.2)))) ∧
      ∀ acc, acc.length ≤ items.length → I items acc → T.nx (Δ.set i (some (.ol acc)))) Δ)
    (hk : c.sc.kind = .function := by rfl) (hp : (p.line == p1.line) = true := by rfl) (hn : (scope.names.any fun (n, k) => n == x && (k == .local || k == .cell)) = false := by decide +kernel) (hs : ∀ env x, foldedSetIterable iter env x = pure x := by intro _ _; rfl) (hst : c.st x = true := by rfl) (hh : c.hot = none := by rfl) : WS c (.Assign [.Name x p] (.ListComp elt [⟨tg, iter, ifs, 0⟩] scope p1) pos) T Δ := fun X H0 Z0 hX σ H Z hS => by
  have hsw : ∀ line, swapsWith (.ListComp elt [⟨tg, iter, ifs, 0⟩] scope p1) (some (.Name x p)) line X.env = pure true := fun line => by
    show (pure (X.env.blockKind == .function && X.env.kindOf x == some .local && p.line == p1.line && !(scope.names.any fun (n, k) => n == x && (k == .local || k == .cell))) : Sem Bool) = pure true
    have e : X.env.kindOf x = some .local := by show X.env.scope.names.lookup x = _; rw [hX.sc]; exact hx
    have e2 : X.env.blockKind = .function := by
      unfold Env.blockKind
      rw [hX.sc, hk]; rfl
    rw [e, e2, hp, hn]; rfl
  refine Ws.of (ps_setLc (own := own) (wi := Wi X tg iter) (hX.calm hh) (by rw [hX.N]; exact hX.nd) (by rw [hX.N]; exact hi) (by rw [hX.sc]; exact hx) (hsw _) pi_wi (by rw [hX.N, hX.sc]; exact blkOk_of ok) pg_b pt_b pe_b (hs X.env)) ?_
  have r := lc_run (Q := fun d => T.nx (Δ.set i (some d))) h hh hX.toCtxOk hS
  -- the end of the reading is weakened
  have mono : ∀ {wi : TI} {g : TG} {tt : TT} {te : TE} {vs : List Nat} {Q Q' : VK}, (∀ {R R' : It → Hp → Prop}, (∀ J H', R J H' → R' J H') → wi σ H R → wi σ H R') → tLc wi g tt te vs σ H Q → (∀ v H', Q v H' → Q' v H') → tLc wi g tt te vs σ H Q' := fun {wi g tt te vs Q Q'} mw t k =>
    mw (fun J H' r Dl hD => by
      obtain ⟨W, w0, st⟩ := r Dl hD
      exact ⟨W, w0, fun i m H2 w => (st i m H2 w).imp (fun ⟨a, b⟩ => ⟨a, k _ _ b⟩) id⟩) t
  exact mono (fun k h => h.mono k) r fun v H1 ⟨Z1, d, s1, r1, q⟩ => ⟨Z1, _, s1.le, hS.setO s1 i r1, q⟩
/-- a, b = e (e no tuple that is written here) -/
theorem ws_unpack {ts : List Expr} {kk : Nat} {tp : Pos} (js : List Nat) (h : WE c e (fun d => WG c js (.Tuple ts kk tp) d T.nx Δ) Δ) (hs : ∀ env, swapsWithSole [.Tuple ts kk tp] e pos.line env = pure false := by intro _; rfl) (hw : ∀ env, swappedStores [.Tuple ts kk tp] e env = pure none := by intro _; rfl) :
    WS c (.Assign [.Tuple ts kk tp] e pos) T Δ := fun X H0 Z0 hX σ H Z hS =>
  Ws.of (ps_asg pe_we pg_we (hs _) (hw _) rfl) ((h X H0 Z0 hX.toCtxOk σ H Z hS).mono fun v H1 ⟨Z1, d, s1, r1, q⟩ =>
    (q X H0 Z0 hX.toCtxOk σ H1 Z1 v (hS.step s1) r1).mono fun σ2 H2 ⟨Z2, Δ2, s2, hS2, _, q2⟩ => ⟨Z2, Δ2, s1.le.trans s2.le, hS2, q2⟩)
/-- a, b = x, y, two locals -/
theorem ws_par (i j : Nat) {x y : Str} {px py pt : Pos} {kt k2 pt2} (hi : c.N[i]? = some x) (hj : c.N[j]? = some y) (hij : i ≠ j) (hx : c.sc.names.lookup x = some .local) (hy : c.sc.names.lookup y = some .local)
    (h : WA c [a, b] (fun ds => ∃ d1 d2, ds = [d1, d2] ∧ T.nx ((Δ.set i (some d1)).set j (some d2))) Δ)
    (hw : ∀ env : Env, env.scope = c.sc → swappedStores [.Tuple [.Name x px, .Name y py] kt pt] (.Tuple [a, b] k2 pt2) env = pure (some [x, y])) (hh : c.hot = none := by rfl) : WS c (.Assign [.Tuple [.Name x px, .Name y py] kt pt] (.Tuple [a, b] k2 pt2) pos) T Δ := fun X H0 Z0 hX σ H Z hS =>
  Ws.of (ps_par (hX.calm hh) (by rw [hX.N]; exact hX.nd) (by rw [hX.N]; exact hi) (by rw [hX.N]; exact hj) hij (by rw [hX.sc]; exact hx) (by rw [hX.sc]; exact hy) pa_we (hw _ hX.sc) rfl)
    ((h X H0 Z0 hX.toCtxOk σ H Z hS).mono fun vs H1 ⟨Z1, ds, s1, r1, d1, d2, ed, q⟩ => by
      subst ed
      obtain ⟨v, w, rfl, rv, rw'⟩ := r1.two
      exact ⟨v, w, rfl, Z1, _, s1.le, ((hS.step s1).set i rv).set j rw', q⟩)
/-- xs[i] = e, xs one's own list -/
theorem ws_item (i : Nat) {x : Str} {p p2 : Pos} {ds : List D} (hN : c.N[i]? = some x) (hv : Vis c.sc x) (hi : Δ[i]? = some (some (.ol ds)))
    (h : WE c e (fun y => WE c b (fun ix => ∃ n k, ix = .int n ∧ ixN ds.length n = some k ∧ T.nx (Δ.set i (some (.ol (ds.set k y))))) Δ) Δ) (hs : ∀ env, swapsWithSole [.Subscript (.Name x p) b p2] e pos.line env = pure false := by intro _; rfl)
    (hw : ∀ env, swappedStores [.Subscript (.Name x p) b p2] e env = pure none := by intro _; rfl)
    (ha : ∀ env v, assign (.Subscript (.Name x p) b p2) env v = (do
      let ov ← holding [v] (eval (.Name x p) env)
      let iv ← holding [v, ov] (eval b env)
      standAt p2
      holding [v, ov, iv] (setItem ov iv v)
      release [v, ov, iv] []) := by intro _ _; rfl)
    (hd : (x == ("__debug__" : Str)) = false := by decide) (hcd : (x == ("__classdict__" : Str)) = false := by decide) :
    WS c (.Assign [.Subscript (.Name x p) b p2] e pos) T Δ := fun X H0 Z0 hX σ H Z hS => by
  refine Ws.of (ps_asg pe_we (pg_sub (pe_var (i := i) (by rw [hX.N]; exact hN) (by rw [hX.sc]; exact hv) hd hcd) pe_we set_list (ha _)) (hs _) (hw _) rfl) ?_
  refine (h X H0 Z0 hX.toCtxOk σ H Z hS).mono fun v H1 ⟨Z1, y, s1, ry, q1⟩ => ?_
  have hS1 := hS.step s1
  obtain ⟨l, o, e1, h0, zl, hl, r⟩ := hS1.getO hi rfl
  refine ⟨_, e1, ?_⟩
  refine (q1 X H0 Z0 hX.toCtxOk σ H1 Z1 hS1).mono fun u H2 ⟨Z2, ix, s2, ri, n, k, en, hk, q⟩ => ?_
  subst en; cases ri
  have hS2 := hS1.step s2
  obtain ⟨l2, o2, e2, _, _, hl2, r2⟩ := hS2.getO hi rfl
  rw [e1] at e2; cases e2
  cases r2 with
  | lst rr => exact ⟨l, _, n, k, rfl, rfl, hl2, by rw [rr.length]; exact hk, Z2, _, s1.le.trans s2.le, hS2.put hi rfl e1 (.lst (rr.set (ry.le s2.le) k)), q⟩
/-- xs.append(e), xs one's own list -/
theorem ws_app (i : Nat) {x : Str} {p ap cp : Pos} {ds : List D} (hN : c.N[i]? = some x) (hv : Vis c.sc x) (hi : Δ[i]? = some (some (.ol ds)))
    (h : WE c e (fun y => ds.length < sizeLine ∧ T.nx (Δ.set i (some (.ol (ds ++ [y]))))) Δ) (hse : isStar e = false := by rfl) (hline : (ap.endLine == cp.line) = true := by rfl) (hs : ∀ env, swapsWith (.Call (.Attribute (.Name x p) "append" ap) [e] [] cp) none pos.line env = pure false := by intro _; rfl)
    (hd : (x == ("__debug__" : Str)) = false := by decide) (hcd : (x == ("__classdict__" : Str)) = false := by decide) :
    WS c (.Expr (.Call (.Attribute (.Name x p) "append" ap) [e] [] cp) pos) T Δ := fun X H0 Z0 hX σ H Z hS => by
  refine Ws.of (ps_expr (pe_bm PySem.F.plainAttrs_list PySem.F.slot_list_append PySem.F.type_list_append mt_append (pe_var (i := i) (by rw [hX.N]; exact hN) (by rw [hX.sc]; exact hv) hd hcd) (pa_cons pe_we pa_nil (star1 hse)) rfl (by rw [star1 hse]; rfl) hline (star1 hse) rfl) (hs _)) ?_
  obtain ⟨l, o, e1, h0, zl, hl, r⟩ := hS.getO hi rfl
  cases r with
  | lst rr =>
    rename_i vs
    refine ⟨_, e1, .inl ⟨rfl, _, .of hl⟩, ?_⟩
    refine (h X H0 Z0 hX.toCtxOk σ H Z hS).mono fun v H1 ⟨Z1, y, s1, ry, hz, q⟩ => ?_
    have k := s1.keep l _ hl zl ⟨fun ps e => (nomatch e), fun c q e => (nomatch (show _ = HO.ext _ from e)), fun vs e => (nomatch e)⟩
    exact ⟨l, vs, v, rfl, rfl, k.1, by rw [rr.length]; exact hz, Z1, _, s1.le, (hS.step s1).put hi rfl e1 (.lst ((rr.le s1.le).append (.cons ry .nil))), q⟩
/-- x += e on ints -/
theorem ws_augAdd (i : Nat) {x : Str} {p : Pos} {n : Int} (hN : c.N[i]? = some x) (hx : Loc c.sc x) (hi : Δ[i]? = some (some (.int n))) (h : WE c e (fun y => ∃ m, y = .int m ∧ T.nx (Δ.set i (some (.int (n + m))))) Δ) (hst : c.st x = true := by rfl) :
    WS c (.AugAssign (.Name x p) .Add e pos) T Δ := fun X H0 Z0 hX σ H Z hS => by
  refine Ws.of (ps_aug (by rw [hX.N]; exact hX.nd) (by rw [hX.N]; exact hN) (hX.loc hx) pe_we ip_add (by rw [hX.sc]; exact hX.fn x hst hx)) ?_
  obtain ⟨v, e1, r⟩ := hS.get hi rfl
  cases r
  exact ⟨_, e1, (h X H0 Z0 hX.toCtxOk σ H Z hS).mono fun u H1 ⟨Z1, y, s1, ry, m, ey, q⟩ => by subst ey; cases ry; exact ⟨n, m, rfl, rfl, Z1, _, s1.le, (hS.step s1).set i .int, q⟩⟩

/-! ### loops -/
theorem split_at {α : Type} {items : List α} {i : Nat} {x : α} (e : items[i]? = some x) : items = items.take i ++ x :: items.drop (i + 1) ∧ items.take (i + 1) = items.take i ++ [x] := by
  have hlt : i < items.length := (List.getElem?_eq_some_iff.mp e).1
  have h2 := (List.getElem?_eq_some_iff.mp e).2
  constructor
  · rw [← h2, ← List.drop_eq_getElem_cons hlt, List.take_append_drop]
  · rw [List.take_succ_eq_append_getElem hlt, h2]
theorem ws_for {tg iter : Expr} {body : List Stmt} (js : List Nat) (h : WI c tg iter (fun items => ∃ I : List D → Dl → Prop, I [] Δ ∧
      (∀ pre x post Δ', items = pre ++ x :: post → I pre Δ' → WG c js tg x (fun Δ2 => WB c body ⟨I (pre ++ [x]), T.rt, T.nx, I (pre ++ [x])⟩ Δ2) Δ') ∧ ∀ Δ', I items Δ' → T.nx Δ') Δ)
    (hs : ∀ env x, foldedSetIterable iter env x = pure x := by intro _ _; rfl) (hh : c.hot = none := by rfl) : WS c (.For tg iter body [] pos) T Δ := fun X H0 Z0 hX σ H Z hS => by
  refine Ws.of (ps_for hX.own (hX.calm hh) pi_wi pg_we pss_we (hs _)) ?_
  refine (h X H0 Z0 hX.toCtxOk σ H Z hS).mono fun J H1 ⟨Z1, items, s1, yl, I, i0, turn, fin⟩ => ?_
  refine ⟨fun i m σ' H' => m = items.length - i ∧ i ≤ items.length ∧ ∃ Z' Δ', Le Z1 Z' ∧ Slots c.K H0 Z0 σ' H' Z' Δ' ∧ I (items.take i) Δ', ⟨items.length, by simp, Nat.zero_le _, Z1, Δ, .refl _, hS.step s1, i0⟩, ?_⟩
  rintro i m σ' H' ⟨rfl, hi, Z', Δ', le, hS', ii⟩
  cases e : items[i]? with
  | none =>
    have hi' : i = items.length := by have := List.getElem?_eq_none_iff.mp e; omega
    subst hi'
    rw [List.take_length] at ii
    exact .inl ⟨(yl H' Z' le hS'.ok _).2 e, Z', Δ', s1.le.trans le, hS', fin Δ' ii⟩
  | some x =>
    obtain ⟨go, yld⟩ := (yl H' Z' le hS'.ok i).1 x e
    obtain ⟨sp1, sp2⟩ := split_at e
    have hlt : i < items.length := (List.getElem?_eq_some_iff.mp e).1
    refine .inr ⟨go, fun σ2 H2 => i + 1 ≤ items.length ∧ ∃ Z' Δ', Le Z1 Z' ∧ Slots c.K H0 Z0 σ2 H2 Z' Δ' ∧ I (items.take (i + 1)) Δ', fun σ2 H2 ⟨a1, a2⟩ => ⟨items.length - (i + 1), by omega, rfl, a1, a2⟩, fun v H2 y => ?_⟩
    obtain ⟨Z2, s2, rx⟩ := yld v H2 y
    refine (turn _ x _ Δ' sp1 ii X H0 Z0 hX.toCtxOk σ' H2 Z2 v (hS'.step s2) rx).mono fun σ3 H3 ⟨Z3, Δ3, s3, hS3, _, q3⟩ => ?_
    intro pins s I'
    have le3 : Le Z1 Z3 := (le.trans s2.le).trans s3.le
    refine thn (q3 X H0 Z0 hX σ3 H3 Z3 hS3 pins s I') fun f s' q => sp_mono q (fun σ4 H4 ⟨Z4, Δ4, l4, hS4, q4⟩ => ⟨hlt, Z4, Δ4, le3.trans l4, hS4, by rw [sp2]; exact q4⟩) (fun _ _ q => q)
      (fun σ4 H4 ⟨Z4, Δ4, l4, hS4, q4⟩ => ⟨Z4, Δ4, (s1.le.trans le3).trans l4, hS4, q4⟩) (fun σ4 H4 ⟨Z4, Δ4, l4, hS4, q4⟩ => ⟨hlt, Z4, Δ4, le3.trans l4, hS4, by rw [sp2]; exact q4⟩)
/-- while, by a word and a number that falls -/
theorem ws_while {t : Expr} {body : List Stmt} (I : Nat → Dl → Prop) (m0 : Nat) (h0 : I m0 Δ)
    (h : ∀ m Δ', I m Δ' → WT c t (fun k => if k = true then WB c body ⟨fun Δ2 => ∃ m', m' < m ∧ I m' Δ2, T.rt, T.nx, fun Δ2 => ∃ m', m' < m ∧ I m' Δ2⟩ Δ' else T.nx Δ') Δ') : WS c (.While t body [] pos) T Δ := fun X H0 Z0 hX σ H Z hS => by
  refine Ws.of (ps_while hX.own pt_we pss_we) ?_
  refine ⟨fun m σ' H' => ∃ Z' Δ', Le Z Z' ∧ Slots c.K H0 Z0 σ' H' Z' Δ' ∧ I m Δ', ⟨m0, Z, Δ, .refl _, hS, h0⟩, ?_⟩
  rintro m σ' H' ⟨Z', Δ', le, hS', ii⟩
  refine (h m Δ' ii X H0 Z0 hX.toCtxOk σ' H' Z' hS').mono fun k H2 ⟨Z2, s2, q⟩ => ?_
  cases k with
  | true =>
    rw [if_pos rfl] at q ⊢
    refine ⟨fun σ3 H3 => ∃ m', m' < m ∧ ∃ Z' Δ', Le Z Z' ∧ Slots c.K H0 Z0 σ3 H3 Z' Δ' ∧ I m' Δ', fun σ3 H3 q => q, ?_⟩
    intro pins s I'
    refine thn (q X H0 Z0 hX σ' H2 Z2 (hS'.step s2) pins s I') fun f s' q => sp_mono q (fun σ4 H4 ⟨Z4, Δ4, l4, hS4, m', hm, q4⟩ => ⟨m', hm, Z4, Δ4, (le.trans s2.le).trans l4, hS4, q4⟩) (fun _ _ q => q)
      (fun σ4 H4 ⟨Z4, Δ4, l4, hS4, q4⟩ => ⟨Z4, Δ4, (le.trans s2.le).trans l4, hS4, q4⟩) (fun σ4 H4 ⟨Z4, Δ4, l4, hS4, m', hm, q4⟩ => ⟨m', hm, Z4, Δ4, (le.trans s2.le).trans l4, hS4, q4⟩)
  | false =>
    rw [if_neg Bool.false_ne_true] at q ⊢
    exact ⟨Z2, Δ', le.trans s2.le, hS'.step s2, q⟩
end

/-! ### defs -/
def startD (N : List Str) (ds : List D) : Dl := ds.map some ++ List.replicate (N.length - ds.length) none
theorem slots_start {K : PySem.W.Frag} {H : Hp} {Z : Sh} {N : List Str} {vs : List V} {ds : List D} (ok : OkZ H Z) (r : Rps K Z vs ds) : Slots K H Z (L2.start N vs) H Z (startD N ds) := by
  refine ⟨ok, .refl ok, ?_, fun i d e => ?_, fun i j d d' l e1 e2 o1 => ?_⟩
  · unfold L2.start startD
    rw [List.length_append, List.length_append, List.length_map, List.length_map, r.length, List.length_replicate, List.length_replicate]
  · unfold startD at e
    by_cases hi : i < ds.length
    · rw [List.getElem?_append_left (by simpa using hi), List.getElem?_map] at e
      cases q : ds[i]? with
      | none => rw [q] at e; cases e
      | some d' =>
        rw [q] at e; cases e
        obtain ⟨v, hv, rv⟩ := r.get q
        refine ⟨v, ?_, .inl rv⟩
        unfold L2.start
        rw [List.getElem?_append_left (by rw [List.length_map, r.length]; exact hi), List.getElem?_map, hv]; rfl
    · rw [List.getElem?_append_right (by simpa using hi), List.getElem?_replicate] at e
      split at e <;> cases e
  · unfold startD at e1
    by_cases hi : i < ds.length
    · rw [List.getElem?_append_left (by simpa using hi), List.getElem?_map] at e1
      cases q : ds[i]? with
      | none => rw [q] at e1; cases e1
      | some d2 =>
        rw [q] at e1; cases e1
        obtain ⟨v, hv, rv⟩ := r.get q
        rw [not_own rv] at o1; cases o1
    · rw [List.getElem?_append_right (by simpa using hi), List.getElem?_replicate] at e1
      split at e1 <;> cases e1
section
variable {P : Program} {w : World} {K : PySem.W.Frag} {mg : Str → Option Value} {base : Heap}
/-- THE RULE for a def: its body over data -/
theorem def_ok {x qual : Str} {st : Stmt} {f : Addr} {fd : FuncData} {N ps : List Str} {k : Nat} {sp : DSp} (F : Fun K x qual st f fd) (S : FnScope N ps (defScope st)) (len : ∀ ds Q E, sp ds Q E → ds.length = ps.length)
    (h : ∀ ds Q E, sp ds Q E → WB ⟨P, w, K, mg, base, N, defScope st, k, E, fun _ => true, none, none⟩ (defBody st) ⟨fun _ => Q .non, fun d _ => Q d, fun _ => False, fun _ => False⟩ (startD N ds)) : FnOk P w K mg base (L2.CX P w) (k + 1) f fd ps (lift K sp) := by
  refine F.okX S (fun vs H Q E ⟨Z, ds, Q0, E0, ok, r, hs, _⟩ => by rw [r.length]; exact len ds Q0 E0 hs) fun cdv A outer s H vs Q E hr hsp => ?_
  obtain ⟨Z, ds, Q0, E0, ok, r, hs, kq, ke⟩ := hsp
  refine ⟨_, pss_we, ?_⟩
  have tk : Takes (cxOf (L2.CX P w) P w K mg base N qual (defScope st) f cdv A outer s H E) (fun cls d _ H => E cls d H) := takes_of rfl rfl rfl rfl
  have hX : CtxS ⟨P, w, K, mg, base, N, defScope st, k, E0, fun _ => true, none, none⟩ H Z (cxOf (L2.CX P w) P w K mg base N qual (defScope st) f cdv A outer s H E) :=
    { P := rfl, w := rfl, K := rfl, mg := rfl, base := rfl, N := rfl, sc := rfl, calm := fun _ => rfl, su := fun _ _ _ z => (nomatch z), lm := fun _ z => (nomatch z), room := fun _ => hr, nd := S.nd, fn := fun _ _ _ => .inl rfl,
      tk := tk.imp fun cls d σ H' ⟨Z', y, st', rx, hw⟩ => ke y hw cls d H' Z' st' rx, own := passes_of rfl }
  intro pins s' I
  refine thn (h ds Q0 E0 hs _ H Z hX (L2.start N vs) H Z (slots_start ok r) pins s' I) fun fl s2 q => sp_mono q (fun σ' H' ⟨Z', Δ', _, hS, q⟩ => ?_) (fun v H' ⟨Z', d, σ', Δ', hS, rr, q⟩ => kq d q v H' Z' hS.stp rr) (fun _ _ ⟨_, _, _, _, q⟩ => q.elim) fun _ _ ⟨_, _, _, _, q⟩ => q.elim
  exact kq .non q .non H' Z' hS.stp (.inl .non)
end
end DL
end
section
set_option Elab.async false
set_option linter.all false
set_option maxRecDepth 100000
set_option maxHeartbeats 4000000
/-! DL7: in over a list of instances with their own ==; own classes made; fields stored; enumerate of a tuple. -/
namespace GQ
open PySem PySem.SeqAt
open AutoSeq1 (wpAny_loadPart')
open MeetsSeq MeetsSeq2 MeetsSeq3 SeqRoads2
section
variable {prog : Program} {w : World} {A : Around} {R : Result → Shared → Prop} {E : Value → Shared → Prop} {s : Shared}
/-- at each turn the list is read anew: the i-th item is equal to x, or not, as bs says -/
def HasI (prog : Program) (w : World) (A : Around) (E : Value → Shared → Prop) (l : Addr) (x : Value) (N : Nat) (bs : Nat → Bool) (I : Nat → Shared → Prop) : Prop :=
  ∀ i s, I i s → ∃ (items : Array Value) (n : Nat), s.heap.get? l = some { cls := .type "list", data := .seq items n } ∧ items.size = N ∧
    ∀ (h1 : i < items.size), wpAny (model prog w) A.in1 (eqBool items[i] x) (fun r s' => r = bs i ∧ I (i + 1) s') E s
theorem has_loopG (l : Addr) (x : Value) (N : Nat) (bs : Nat → Bool) (I : Nat → Shared → Prop) (hl : HasI prog w A (fun e s' => R (.error e) s') l x N bs I)
    (yes : ∀ i s, i < N → (∀ j, j < i → bs j = false) → bs i = true → I (i + 1) s → R (.ok (.ret (.bool true))) s) (no : ∀ s, (∀ j, j < N → bs j = false) → I N s → R (.ok (.ret (.bool false))) s) (k : Nat) :
    ∀ i : Nat, N - i = k → i ≤ N → (∀ j, j < i → bs j = false) → ∀ s, I i s →
      wpAny (model prog w) A.in1 (Builtin.«list.__contains__.loop» ⟨[.ref l, x, rawInt i], []⟩) (FinOf prog w A R) (fun e s' => R (.error e) s') s := by
  induction k with
  | zero =>
    intro i hk hi hb s h
    obtain ⟨items, n, hl1, hs1, _⟩ := hl _ _ h
    have hi' : i = N := by omega
    have hR : R (.ok (.ret (.bool false))) s := no s (fun j hj => hb j (by omega)) (hi' ▸ h)
    obtain ⟨hp, g, d, tk, os⟩ := s
    wp_walk using wpAny_loadPart' hl1
    have hi1 : items[((i : Nat) : Int).toNat]? = none := by simp; omega
    rw [hi1]
    wp_walk
    exact hR
  | succ k ih =>
    intro i hk hi hb s h
    obtain ⟨items, n, hl1, hs1, turn⟩ := hl _ _ h
    have hlt : i < items.size := by omega
    have ht := turn hlt
    obtain ⟨hp, g, d, tk, os⟩ := s
    wp_walk using wpAny_loadPart' hl1
    have hi1 : items[((i : Nat) : Int).toNat]? = some items[i] := by simp [hlt]
    have hc : ((i : Int) + 1) = ((i + 1 : Nat) : Int) := by omega
    rw [hi1]
    refine wpAny_bind (wpAny_mono ht (fun r s2 h2 => ?_) fun _ _ x => x)
    obtain ⟨hr, h2⟩ := h2
    subst hr
    cases hbi : bs i with
    | true =>
      have hR := yes i s2 (by omega) hb hbi h2
      obtain ⟨hp2, g2, d2, tk2, os2⟩ := s2
      wp_walk
      exact hR
    | false =>
      have hrec := ih (i + 1) (by omega) (by omega) (fun j hj => by
        by_cases e : j = i
        · rw [e]; exact hbi
        · exact hb j (by omega)) s2 h2
      obtain ⟨hp2, g2, d2, tk2, os2⟩ := s2
      wp_walk
      rw [hc]
      exact ⟨plainId_quiet plain_contains_loop _, codeAny_builtin entry_contains_loop (by
        rw [Around.under_plainId plain_contains_loop _]
        exact hrec)⟩
theorem list_hasG (l : Addr) (x : Value) (N : Nat) (bs : Nat → Bool) (I : Nat → Shared → Prop) (hl : HasI prog w A (fun e s' => R (.error e) s') l x N bs I)
    (yes : ∀ i s, i < N → (∀ j, j < i → bs j = false) → bs i = true → I (i + 1) s → R (.ok (.ret (.bool true))) s) (no : ∀ s, (∀ j, j < N → bs j = false) → I N s → R (.ok (.ret (.bool false))) s) {s : Shared} (h : I 0 s) :
    wpAny (model prog w) A.in1 (Builtin.«list.__contains__» ⟨[.ref l, x], []⟩) (FinOf prog w A R) (fun e s' => R (.error e) s') s := by
  obtain ⟨items, n, hl1, hs1, _⟩ := hl _ _ h
  have hrec := has_loopG (A := A) (R := R) l x N bs I hl yes no _ 0 rfl (Nat.zero_le _) (fun j hj => absurd hj (Nat.not_lt_zero j)) s h
  obtain ⟨hp, g, d, tk, os⟩ := s
  wp_walk using wpAny_loadPart' hl1
  exact ⟨plainId_quiet plain_contains_loop _, codeAny_builtin entry_contains_loop (by
    rw [Around.under_plainId plain_contains_loop _]
    exact hrec)⟩
theorem in_listG {l : Addr} {x : Value} (N : Nat) (bs : Nat → Bool) (I : Nat → Shared → Prop) {Q : Value → Shared → Prop} (hl : HasI prog w A E l x N bs I)
    (yes : ∀ i s, i < N → (∀ j, j < i → bs j = false) → bs i = true → I (i + 1) s → Q (.bool true) s) (no : ∀ s, (∀ j, j < N → bs j = false) → I N s → Q (.bool false) s) (h : I 0 s) :
    wpAny (model prog w) A (compareOp .In x (.ref l)) Q E s := by
  obtain ⟨items, n, hl1, _, _⟩ := hl _ _ h
  show wpAny _ A (do return .bool (← contains (.ref l) x)) Q E s
  refine wpAny_bind (wpAny_contains_slot ⟨_, hl1, rfl⟩ F.slot_list_contains (wpAny_mono (Q := fun v s' => ∃ b, v = .bool b ∧ Q (.bool b) s') (call_here F.slot_list_contains ⟨_, hl1, rfl⟩ F.entry_list_contains (F.args_list_contains_2 _ _) ?_) (fun v s' hv => ?_) fun _ _ e => e))
  · exact list_hasG (R := wants (fun v s' => ∃ b, v = .bool b ∧ Q (.bool b) s') E) l x N bs I hl (fun i s' a b c' d => ⟨true, rfl, yes i s' a b c' d⟩) (fun s' a b => ⟨false, rfl, no s' a b⟩) h
  · obtain ⟨b, rfl, hq⟩ := hv
    exact wpAny_truthy_bool (wpAny_pure hq)
theorem notIn_listG {l : Addr} {x : Value} (N : Nat) (bs : Nat → Bool) (I : Nat → Shared → Prop) {Q : Value → Shared → Prop} (hl : HasI prog w A E l x N bs I)
    (yes : ∀ i s, i < N → (∀ j, j < i → bs j = false) → bs i = true → I (i + 1) s → Q (.bool false) s) (no : ∀ s, (∀ j, j < N → bs j = false) → I N s → Q (.bool true) s) (h : I 0 s) :
    wpAny (model prog w) A (compareOp .NotIn x (.ref l)) Q E s := by
  obtain ⟨items, n, hl1, _, _⟩ := hl _ _ h
  show wpAny _ A (do return .bool (!(← contains (.ref l) x))) Q E s
  refine wpAny_bind (wpAny_contains_slot ⟨_, hl1, rfl⟩ F.slot_list_contains (wpAny_mono (Q := fun v s' => ∃ b, v = .bool b ∧ Q (.bool (!b)) s') (call_here F.slot_list_contains ⟨_, hl1, rfl⟩ F.entry_list_contains (F.args_list_contains_2 _ _) ?_) (fun v s' hv => ?_) fun _ _ e => e))
  · exact list_hasG (R := wants (fun v s' => ∃ b, v = .bool b ∧ Q (.bool (!b)) s') E) l x N bs I hl (fun i s' a b c' d => ⟨true, rfl, yes i s' a b c' d⟩) (fun s' a b => ⟨false, rfl, no s' a b⟩) h
  · obtain ⟨b, rfl, hq⟩ := hv
    exact wpAny_truthy_bool (wpAny_pure hq)
end
end GQ
end
section
set_option Elab.async false
set_option linter.all false
set_option maxRecDepth 100000
set_option maxHeartbeats 4000000
/-! DL8: own == over data; own classes made; fields stored; enumerate of a tuple. -/
namespace DL
open PySem PySem.Spec PyProof.Rows L2
section
variable {c : Cf} {e a b : Expr} {es : List Expr} {Q : D → Prop} {T : Te} {Δ : Dl} {pos : Pos}

/-! ### == of two instances of a class with its own == -/
theorem rc_own {X : Cx} {n : Nat} {f C : Addr} {fd : FuncData} {ps : List Str} {sp : Sp} {A : Around} {pins : List (Addr × Obj)} {s : Shared} {σ : L2.St} {H : Hp} {a b dx dy : Addr} {fs gs : List (Str × V)} {Q0 : VK} {E : XK}
    (F : FnOk X.prog X.w X.K X.mg X.base (L2.CX X.prog X.w) n f fd ps sp) (hs : PySem.W.findIn X.K (.ref C) "__eq__" = some (some (.ref f))) (hf : PySem.W.isFn X.K (.ref f) = true) (hb : Binds X.K fd ps []) (hx : Passes (L2.CX X.prog X.w) X E)
    (sb : Sub X n A) (I : Inv X pins σ H s) (ha : H a = some (.ins C dx fs)) (hb' : H b = some (.ins C dy gs)) (hsp : sp [.ref a, .ref b] H Q0 E) (hq : ∀ v H', Q0 v H' → ∃ k, v = .bl k) :
    wpAny (model X.prog X.w) A (richCompare .Eq (.ref a) (.ref b)) (fun r s' => ∃ k H', r = .bool k ∧ Inv X pins σ H' s' ∧ Q0 (.bl k) H') X.xe s := by
  obtain ⟨mA, J, _⟩ := ins_get I.hok ha
  obtain ⟨mB, J', _⟩ := ins_get I.hok hb'
  obtain ⟨od, J, _⟩ := J.look
  obtain ⟨od', J', _⟩ := J'.look
  obtain ⟨m, hF⟩ := I.fr
  refine PySem.W.cmp_K (op := .Eq) (tb := .ref C) sb.room.units0 hF I.ok.mod.kin J J'.type (by simp [PySem.W.notFirst]) hs hf ?_
  have e0 : Env0 X.prog X.w X.K X.mg X.base A X.stack s H := by
    have e := I.env0
    exact ⟨by rw [sb.fr]; exact e.frames, e.mod, e.bs, e.bsz, e.funs, e.frf, e.hok, e.bare⟩
  have hl := F.len _ _ _ _ hsp
  have r2 : Vals [V.ref a, V.ref b] [Value.ref a, Value.ref b] := .cons rfl (.cons rfl .nil)
  refine wpAny_call (codeAny_mono (F.run A X.stack s H ⟨[.ref a, .ref b], []⟩ [.ref a, .ref b] [.ref a, .ref b] _ E sb.room e0 (by
    have := hb s [.ref a, .ref b] I.kIn (by simpa using hl)
    simpa using this) r2 hsp) fun r s' hq' => ?_)
  cases r with
  | error e => exact hx pins σ H s e s' I hq'
  | ok fl =>
    cases fl with
    | ret w =>
      obtain ⟨z, H', I', rz, ez⟩ := I.after hq'
      obtain ⟨k, rfl⟩ := hq z H' ez
      cases rz
      exact ⟨k, H', rfl, I', ez⟩
    | next => exact False.elim hq'
    | brk => exact False.elim hq'
    | cont => exact False.elim hq'
/-- an own == of the class at C over data: dom says for which fields, eqF what it answers -/
structure EqM (P : Program) (w : World) (K : PySem.W.Frag) (mg : Str → Option Value) (base : Heap) (j : Nat) (C : Addr) (ns : List Str) (dom : List D → Prop) (eqF : List D → List D → Bool) : Prop where
  ex : ∃ f fd ps, PySem.W.findIn K (.ref C) "__eq__" = some (some (.ref f)) ∧ PySem.W.isFn K (.ref f) = true ∧ Binds K fd ps [] ∧
    FnOk P w K mg base (L2.CX P w) j f fd ps (lift K fun ds Q _ => ∃ x y, ds = [.ins C ns x, .ins C ns y] ∧ dom x ∧ dom y ∧ Q (.bl (eqF x y)))
theorem CtxOk.passesW {H0 Z0 X} (hX : CtxOk c H0 Z0 X) : Passes (L2.CX X.prog X.w) X (fun cls d H => liftX c.K c.W H0 Z0 cls d ([] : L2.St) H) := passes_call hX.tk fun _ _ _ _ h => h
theorem eq_own {H0 Z0 X} (hX : CtxOk c H0 Z0 X) {j : Nat} {C : Addr} {ns : List Str} {dom : List D → Prop} {eqF : List D → List D → Bool} (M : EqM c.P c.w c.K c.mg c.base j C ns dom eqF)
    {A : Around} {pins : List (Addr × Obj)} {s : Shared} {σ : L2.St} {H H1 : Hp} {Z Z1 : Sh} {v u : V} {vv uu : Value} {x y : List D} (sb : Sub X j A) (I : Inv X pins σ H1 s) (st : Stp H Z H1 Z1) (rv : RelV v vv) (ru : RelV u uu) (r1 : Rp c.K Z1 v (.ins C ns x)) (r2 : Rp c.K Z1 u (.ins C ns y)) (dx : dom x) (dy : dom y)
    (stp0 : ∀ Z' H', Stp H Z H' Z' → True) (ref : v = u → eqF x y = true) :
    wpAny (model X.prog X.w) A (eqBool vv uu) (fun r s' => r = eqF x y ∧ ∃ H' Z', Inv X pins σ H' s' ∧ Stp H Z H' Z') X.xe s := by
  obtain ⟨p, dx', vs, rfl, hp, _, _⟩ := r1.ins_inv st.ok
  obtain ⟨q, dy', ws, rfl, hq, _, _⟩ := r2.ins_inv st.ok
  cases rv; cases ru
  obtain ⟨f, fd, ps, hs, hf, hb, FF⟩ := M.ex
  by_cases hpq : p = q
  · subst hpq
    exact SeqAt.EqAt.same (A := A) (s := s) (.ref p) X.prog X.w X.xe _ ⟨(ref rfl).symm, H1, Z1, I, st⟩
  · refine GQ.eqBool_refG hpq (wpAny_mono (rc_own (hX.fnOk FF) (by rw [hX.K]; exact hs) (by rw [hX.K]; exact hf) (by rw [hX.K]; exact hb) (E := fun _ _ _ => False) (fun pins σ H s e s' I' h => by obtain ⟨_, _, _, _, _, _, _, _, _, _, _, _, z⟩ := h; exact z.elim) sb I hp hq
      (Q0 := fun v H' => v = .bl (eqF x y) ∧ ∃ Z', Stp H Z H' Z') ?_ (fun v H' ⟨e, _⟩ => ⟨_, e⟩)) (fun r s' hr => ?_) fun _ _ e => e)
    · exact ⟨Z1, [.ins C ns x, .ins C ns y], fun d => d = .bl (eqF x y), fun _ => False, st.ok, .cons r1 (.cons r2 .nil), ⟨x, y, rfl, dx, dy, rfl⟩, (fun d ed v H' Z' s' rr => by
        have ed : d = .bl (eqF x y) := ed
        subst ed
        rcases rr with rr | ⟨_, _, _, _, _, _, rr⟩
        · cases rr; exact ⟨rfl, Z', st.trans s'⟩
        · cases rr), fun _ z => z.elim⟩
    · obtain ⟨k, H', rfl, I', ek, Z', s'⟩ := hr
      cases ek
      exact ⟨_, rfl, rfl, H', Z', I', s'⟩
theorem any_map {α β : Type} (g : α → β) (f : β → Bool) (l : List α) : (l.map g).any f = l.any fun x => f (g x) := by
  induction l with
  | nil => rfl
  | cons a l ih => rw [List.map_cons, List.any_cons, List.any_cons, ih]
theorem any_false {α : Type} {f : α → Bool} : ∀ {l : List α}, (∀ (j : Nat) (x : α), l[j]? = some x → f x = false) → l.any f = false
  | [], _ => rfl
  | a :: l, h => by
    rw [List.any_cons, h 0 a rfl, any_false fun j x e => h (j + 1) x (by simpa using e)]; rfl
theorem any_true {α : Type} {f : α → Bool} {l : List α} {i : Nat} {x : α} (e : l[i]? = some x) (h : f x = true) : l.any f = true :=
  List.any_eq_true.mpr ⟨x, List.mem_of_getElem? e, h⟩
/-- x in xs, x not in xs: instances of a class with its own == -/
theorem vo_niOwn {j : Nat} {C : Addr} {ns : List Str} {dom : List D → Prop} {eqF : List D → List D → Bool} (M : EqM c.P c.w c.K c.mg c.base j C ns dom eqF) (hj : j < c.k) {x : List D} {ls : List (List D)} (hx : dom x) (hl : ∀ l ∈ ls, dom l)
    (ref : ∀ Z v l, l ∈ ls → Rp c.K Z v (.ins C ns l) → Rp c.K Z v (.ins C ns x) → eqF l x = true) (q : Q (.bl (!ls.any fun l => eqF l x))) (hh : c.hot = none := by rfl) : VO c (compareOp .NotIn) (.ins C ns x) (.lst (ls.map (.ins C ns))) Q := fun X H0 Z0 hX H Z v u ok r1 r2 => by
  obtain ⟨p, vs, rfl, hp, zp, rr⟩ := r2.lst_inv ok
  refine ⟨fun y z H' Q' => y = v ∧ z = .ref p ∧ H' = H ∧ ∀ H2 Z2, Stp H Z H2 Z2 → Q' (.bl (!ls.any fun l => eqF l x)) H2, ?_, rfl, rfl, rfl, fun H2 Z2 s2 => ⟨Z2, _, s2, .inl .bl, q⟩⟩
  intro pins s σ H' y z vv uu Q' I ry rz ⟨e1, e2, e3, k⟩
  subst e1; subst e2; subst e3
  cases rz
  have len : vs.length = ls.length := by rw [rr.length, List.length_map]
  refine GQ.notIn_listG ls.length (fun i => match ls[i]? with | some l => eqF l x | none => false) (fun _ s' => ∃ H2 Z2, Inv X pins σ H2 s' ∧ Stp H' Z H2 Z2) (fun i s' ⟨H2, Z2, I2, s2⟩ => ?_) (fun i s' hi hb hbi ⟨H2, Z2, I2, s2⟩ => ?_) (fun s' hb ⟨H2, Z2, I2, s2⟩ => ?_) ⟨H', Z, I, .refl ok⟩
  · obtain ⟨z1, its, k1, rv, e⟩ := I2.hok p _ (fz_at s2.le s2.ok zp)
    refine ⟨its.toArray, k1, e, by rw [List.size_toArray, ← rv.length, len], fun h1 => ?_⟩
    have hi : i < its.length := by simpa using h1
    have hiv : i < vs.length := by rw [rv.length]; exact hi
    have hil : i < ls.length := by omega
    obtain ⟨w, hw, rw'⟩ := rv.get (List.getElem?_eq_getElem hiv)
    have ew : its.toArray[i] = w := by
      rw [List.getElem?_eq_getElem hi] at hw
      simpa using Option.some.inj hw
    obtain ⟨d, hd, rd⟩ := rr.getV (List.getElem?_eq_getElem hiv)
    rw [List.getElem?_map, List.getElem?_eq_getElem hil] at hd
    cases hd
    rw [ew]
    have hm : ls[i] ∈ ls := List.getElem_mem hil
    have := eq_own hX M (A := X.A.in1) (s := s') (Z1 := Z2) (H1 := H2) ⟨((hX.room hh).mono hj).in1, rfl⟩ I2 s2 rw' ry (rd.le s2.le) (r1.le s2.le) (hl _ hm) hx (fun _ _ _ => trivial) (fun ev => ref Z2 _ ls[i] hm (rd.le s2.le) (by rw [ev]; exact r1.le s2.le))
    refine wpAny_mono this (fun r s3 ⟨hr, q3⟩ => ⟨?_, q3⟩) fun _ _ e => e
    show r = (match ls[i]? with | some l => eqF l x | none => false)
    rw [hr, List.getElem?_eq_getElem hil]
  · have hbi : (match ls[i]? with | some l => eqF l x | none => false) = true := hbi
    rw [List.getElem?_eq_getElem hi] at hbi
    have t : (ls.any fun l => eqF l x) = true := any_true (List.getElem?_eq_getElem hi) hbi
    rw [t] at k
    exact ⟨.bl false, H2, I2, rfl, k H2 Z2 s2⟩
  · have t : (ls.any fun l => eqF l x) = false := any_false fun m l e => by
      have : (match ls[m]? with | some l => eqF l x | none => false) = false := hb m (List.getElem?_eq_some_iff.mp e).1
      rw [e] at this; exact this
    rw [t] at k
    exact ⟨.bl true, H2, I2, rfl, k H2 Z2 s2⟩

/-! ### own classes -/
abbrev ISp := List D → (List Str → List D → Prop) → (XD → Prop) → Prop
def hideA (H : Hp) (x : Addr) : Hp := fun a => if a = x then none else H a
/-- what __init__ promises, at a fresh instance -/
def liftI (K : PySem.W.Frag) (C : Addr) (sp : ISp) : Sp := fun vs H Q E => ∃ x dx ws Z ds Q0 E0, vs = .ref x :: ws ∧ H x = some (.ins C dx []) ∧ Z x = none ∧ OkZ H Z ∧ Rps K Z ws ds ∧ sp ds Q0 E0 ∧
  (∀ ns l, Q0 ns l → ∀ H' Z' o, Stp (hideA H x) Z H' Z' → Z' x = none → H' x = some o → Ow K Z' x o (.oi x C ns l) → Q .non H') ∧
  ∀ y, E0 y → ∀ cls d H' Z', Stp (hideA H x) Z H' Z' → RX K Z' H' cls d y → E cls d H'
theorem okz_hide {H : Hp} {Z : Sh} {x : Addr} (ok : OkZ H Z) (z : Z x = none) : OkZ (hideA H x) Z := ⟨fun a φ h => by
  obtain ⟨o, ho, q⟩ := ok a φ h
  have ne : a ≠ x := fun e => by rw [e, z] at h; cases h
  exact ⟨o, by unfold hideA; rw [if_neg ne]; exact ho, q⟩, fun a φ vs h e => ok.tp a φ vs h (by
  have ne : a ≠ x := fun e => by rw [e, z] at h; cases h
  unfold hideA at e; rw [if_neg ne] at e; exact e), fun a sp h => (ok.kp a sp h).le (Le.refl _) fun o e _ => by
  have ne : a ≠ x := fun e => by rw [e, z] at h; cases h
  unfold hideA; rw [if_neg ne]; exact e⟩
theorem stp_hide {H : Hp} {Z : Sh} {x : Addr} (ok : OkZ H Z) : Stp (hideA H x) Z H Z := by
  have up : ∀ {a : Addr} {o : HO}, hideA H x a = some o → H a = some o := fun {a o} h => by
    unfold hideA at h
    split at h
    · cases h
    · exact h
  exact ⟨Le.refl Z, ok, fun a o h z _ => ⟨up h, z⟩, fun P q t => by
    obtain ⟨nt, z, ps, h1, h2, h3⟩ := t
    exact ⟨nt, z, ps, up h1, h2, h3⟩, fun _ _ z => z, fun a o h n => ⟨o, up h, n⟩⟩
theorem slots_startI {K : PySem.W.Frag} {H : Hp} {Z : Sh} {N : List Str} {ws : List V} {ds : List D} {x C dx : Addr} (ok : OkZ H Z) (zx : Z x = none) (hx : H x = some (.ins C dx [])) (r : Rps K Z ws ds) :
    Slots K (hideA H x) Z (L2.start N (.ref x :: ws)) H Z (startD N (.oi x C [] [] :: ds)) := by
  have gets : ∀ (i : Nat) (d : D), (startD N (.oi x C [] [] :: ds))[i]? = some (some d) → (i = 0 ∧ d = .oi x C [] []) ∨ ∃ m v, i = m + 1 ∧ ds[m]? = some d ∧ ws[m]? = some v ∧ Rp K Z v d ∧ (L2.start N (.ref x :: ws))[i]? = some (some v) := fun i d e => by
    cases i with
    | zero => unfold startD at e; simp at e; exact .inl ⟨rfl, e.symm⟩
    | succ m =>
      right
      unfold startD at e
      by_cases hi : m < ds.length
      · rw [List.getElem?_append_left (by simpa using hi), List.getElem?_map] at e
        rw [List.getElem?_cons_succ] at e
        cases q : ds[m]? with
        | none => rw [q] at e; cases e
        | some d' =>
          rw [q] at e; cases e
          obtain ⟨v, hv, rv⟩ := r.get q
          refine ⟨m, v, rfl, q, hv, rv, ?_⟩
          unfold L2.start
          rw [List.getElem?_append_left (by rw [List.length_map, List.length_cons, r.length]; omega), List.getElem?_map, List.getElem?_cons_succ, hv]; rfl
      · rw [List.getElem?_append_right (by simpa using hi), List.getElem?_replicate] at e
        split at e <;> cases e
  refine ⟨okz_hide ok zx, stp_hide ok, ?_, fun i d e => ?_, fun i j d d' l e1 e2 o1 o2 _ _ => ?_⟩
  · unfold L2.start startD
    rw [List.length_append, List.length_append, List.length_map, List.length_map, List.length_cons, List.length_cons, r.length, List.length_replicate, List.length_replicate]
  · rcases gets i d e with ⟨rfl, rfl⟩ | ⟨m, v, rfl, _, _, rv, es⟩
    · refine ⟨.ref x, by unfold L2.start; simp, .inr ⟨x, _, rfl, .of (by unfold hideA; rw [if_pos rfl]), zx, hx, .ins (ns := []) (vs := []) (dx := dx) rfl .nil⟩⟩
    · exact ⟨v, es, .inl rv⟩
  · rcases gets i d e1 with ⟨rfl, rfl⟩ | ⟨m, v, rfl, _, _, rv, _⟩
    · rcases gets j d' e2 with ⟨rfl, rfl⟩ | ⟨m, v, rfl, _, _, rv, _⟩
      · rfl
      · rw [not_own rv] at o2; cases o2
    · rw [not_own rv] at o1; cases o1
end
section
variable {P : Program} {w : World} {K : PySem.W.Frag} {mg : Str → Option Value} {base : Heap}
/-- THE RULE for an __init__ -/
theorem init_ok {x qual : Str} {st : Stmt} {f C : Addr} {fd : FuncData} {N ps : List Str} {k : Nat} {sp : ISp} (F : Fun K x qual st f fd) (S : FnScope N ps (defScope st)) (len : ∀ ds Q E, sp ds Q E → ds.length + 1 = ps.length)
    (h : ∀ a ds Q E, sp ds Q E → WB ⟨P, w, K, mg, base, N, defScope st, k, E, fun _ => true, none, none⟩ (defBody st) ⟨fun Δ => ∃ ns l, Δ[0]? = some (some (.oi a C ns l)) ∧ Q ns l, fun _ _ => False, fun _ => False, fun _ => False⟩ (startD N (.oi a C [] [] :: ds))) :
    FnOk P w K mg base (L2.CX P w) (k + 1) f fd ps (liftI K C sp) := by
  refine F.okX S (fun vs H Q E ⟨x, dx, ws, Z, ds, Q0, E0, ev, _, _, _, r, hs, _⟩ => by rw [ev, List.length_cons, r.length]; exact len ds Q0 E0 hs) fun cdv A outer s H vs Q E hr hsp => ?_
  obtain ⟨a, dx, ws, Z, ds, Q0, E0, rfl, ha, za, ok, r, hs, kq, ke⟩ := hsp
  refine ⟨_, pss_we, ?_⟩
  have tk : Takes (cxOf (L2.CX P w) P w K mg base N qual (defScope st) f cdv A outer s H E) (fun cls d _ H => E cls d H) := takes_of rfl rfl rfl rfl
  have hX : CtxS ⟨P, w, K, mg, base, N, defScope st, k, E0, fun _ => true, none, none⟩ (hideA H a) Z (cxOf (L2.CX P w) P w K mg base N qual (defScope st) f cdv A outer s H E) :=
    { P := rfl, w := rfl, K := rfl, mg := rfl, base := rfl, N := rfl, sc := rfl, calm := fun _ => rfl, su := fun _ _ _ z => (nomatch z), lm := fun _ z => (nomatch z), room := fun _ => hr, nd := S.nd, fn := fun _ _ _ => .inl rfl,
      tk := tk.imp fun cls d σ H' ⟨Z', y, st', rx, hw⟩ => ke y hw cls d H' Z' st' rx, own := passes_of rfl }
  intro pins s' I
  refine thn (h a ds Q0 E0 hs _ _ Z hX _ H Z (slots_startI ok za ha r) pins s' I) fun fl s2 q => sp_mono q (fun σ' H' ⟨Z', Δ', _, hS, ns, l, e, qq⟩ => ?_) (fun v H' ⟨Z', d, σ', Δ', hS, rr, q⟩ => q.elim) (fun _ _ ⟨_, _, _, _, q⟩ => q.elim) fun _ _ ⟨_, _, _, _, q⟩ => q.elim
  obtain ⟨l', o, _, _, zl, hl, ow⟩ := hS.getO e rfl
  have el : l' = a := by cases ow; rfl
  subst el
  exact kq ns l qq H' Z' o hS.stp zl hl ow
end
/-- the class x of the module, by its __init__'s promise -/
structure Mkr (P : Program) (w : World) (K : PySem.W.Frag) (mg : Str → Option Value) (base : Heap) (j : Nat) (x : Str) (C : Addr) (sp : ISp) : Prop where
  ex : ∃ f fd ps, mg x = some (.ref C) ∧ Mk K C f ∧ Binds K fd ps [] ∧ FnOk P w K mg base (L2.CX P w) j f fd ps (liftI K C sp)
section
variable {c : Cf} {e a b : Expr} {es : List Expr} {Q : D → Prop} {T : Te} {Δ : Dl} {pos : Pos}
theorem wo_make {x : Str} {p : Pos} {j : Nat} {C : Addr} {sp : ISp} (F : Mkr c.P c.w c.K c.mg c.base j x C sp) (hj : j + 1 ≤ c.k) (hg : Glo c x) (h : WA c (e :: es) (fun ds => sp ds (fun ns l => ∀ a, Q (.oi a C ns l)) c.W) Δ) (hs : (e :: es).any isStar = false := by rfl)
    (hdb : (x == ("__debug__" : Str)) = false := by decide) (hh : c.hot = none := by rfl) : WO c (.Call (.Name x p) (e :: es) [] pos) Q Δ := fun X H0 Z0 hX σ H Z hS => by
  rw [List.any_cons, Bool.or_eq_false_iff] at hs
  obtain ⟨f, fd, ps, hm, M, hb, FF⟩ := F.ex
  refine We.of (pe_make (by rw [hX.K]; exact M) (hX.fnOk FF) ((hX.room hh).mono hj) (hX.gl hg) (by rw [hX.mg]; exact hm) (by rw [hX.K]; exact hb) .nil hX.passes pa_we hdb (star1 hs.1) (star0 hs.2)) ?_
  refine (h X H0 Z0 hX σ H Z hS).mono fun vs H1 ⟨Z1, ds, s1, r1, q1⟩ => fun x dx hx hdx ne => ?_
  rw [List.append_nil]
  have zx := s1.ok.none hx
  have zdx := s1.ok.none hdx
  have ok2 : OkZ (upd (upd H1 dx (.own x)) x (.ins C dx [])) Z1 := ((Stp.new s1.ok hdx).own (.of hx) zx).ok
  -- a step from the heap without the instance is one from the heap ahead
  have back : ∀ {H' : Hp} {Z' : Sh}, Stp (hideA (upd (upd H1 dx (.own x)) x (.ins C dx [])) x) Z1 H' Z' → Stp H1 Z1 H' Z' := fun {H' Z'} s => by
    have same : ∀ {a : Addr} {o : HO}, H1 a = some o → hideA (upd (upd H1 dx (.own x)) x (.ins C dx [])) x a = some o := fun {a o} h => by
      have n1 : a ≠ x := ne_of_none h hx
      have n2 : a ≠ dx := ne_of_none h hdx
      unfold hideA
      rw [if_neg n1, upd_ne n1, upd_ne n2]; exact h
    exact ⟨s.le, s.ok, fun a o h z n => s.keep a o (same h) z n, fun P q t => s.tab P q (by
      obtain ⟨nt, z, ps, h1, h2, h3⟩ := t
      exact ⟨nt, z, ps, same h1, h2, h3⟩), s.tb, fun a o h n => s.stays a o (same h) n⟩
  refine ⟨x, dx, vs, Z1, ds, _, _, rfl, upd_same, zx, ok2, r1, q1, fun ns l q H' Z' o s zo ho ow => ⟨rfl, ?_⟩, fun y hy cls d H' Z' s rx => ?_⟩
  · exact oPost.mono hS.ok s1 ⟨Z', _, back s, .inr ⟨x, o, rfl, .of hx, zo, ho, ow⟩, q x⟩
  · exact ⟨Z', y, (hS.stp.trans s1).trans (back s), rx, hy⟩
theorem we_make {x : Str} {p : Pos} {j : Nat} {C : Addr} {sp : ISp} (F : Mkr c.P c.w c.K c.mg c.base j x C sp) (hj : j + 1 ≤ c.k) (hg : Glo c x) (h : WA c (e :: es) (fun ds => sp ds (fun ns l => ∀ _ : Addr, Q (.ins C ns l)) c.W) Δ) (hs : (e :: es).any isStar = false := by rfl)
    (hdb : (x == ("__debug__" : Str)) = false := by decide) (hh : c.hot = none := by rfl) : WE c (.Call (.Name x p) (e :: es) [] pos) Q Δ := we_of_wo (wo_make (hh := hh) F hj hg h hs hdb)
theorem zip_put {f : Str} {v : V} : ∀ {ns : List Str} {vs : List V}, ns.length = vs.length → ns.contains f = false → putF f v (ns.zip vs) = (ns ++ [f]).zip (vs ++ [v])
  | [], [], _, _ => rfl
  | n :: ns, u :: vs, hl, hn => by
    rw [List.contains_cons, Bool.or_eq_false_iff] at hn
    have h1 : n ≠ f := fun e => by rw [e] at hn; simp at hn
    show (if n = f then _ else (n, u) :: putF f v (ns.zip vs)) = (n, u) :: ((ns ++ [f]).zip (vs ++ [v]))
    rw [if_neg h1, zip_put (by simpa using hl) hn.2]
  | [], _ :: _, hl, _ => by simp at hl
  | _ :: _, [], hl, _ => by simp at hl
/-- self.f = e, a first store -/
theorem ws_fld (i : Nat) {x f : Str} {p p2 : Pos} {q C : Addr} {ns : List Str} {l : List D} (hN : c.N[i]? = some x) (hv : Vis c.sc x) (hi : Δ[i]? = some (some (.oi q C ns l))) (hC : Cls c.K C) (hn : NoAttr c.K C f) (hf : ns.contains f = false) (hl : ns.length < 1000)
    (h : WE c e (fun y => T.nx (Δ.set i (some (.oi q C (ns ++ [f]) (l ++ [y]))))) Δ) (hs : ∀ env, swapsWith e (some (.Attribute (.Name x p) f p2)) pos.line env = pure false := by intro _; rfl)
    (hd : (x == ("__debug__" : Str)) = false := by decide) (hcd : (x == ("__classdict__" : Str)) = false := by decide) : WS c (.Assign [.Attribute (.Name x p) f p2] e pos) T Δ := fun X H0 Z0 hX σ H Z hS => by
  refine Ws.of (ps_fld (pe_var (i := i) (by rw [hX.N]; exact hN) (by rw [hX.sc]; exact hv) hd hcd) pe_we (hs _)) ?_
  refine (h X H0 Z0 hX.toCtxOk σ H Z hS).mono fun v H1 ⟨Z1, y, s1, ry, q1⟩ => ?_
  have hS1 := hS.step s1
  obtain ⟨l', o, e1, h0, zl, hl', ow⟩ := hS1.getO hi rfl
  cases ow with
  | ins el rr =>
    rename_i dx vs
    have key := hS1.put hi rfl e1 (.ins (C := C) (dx := dx) (ns := ns ++ [f]) (vs := vs ++ [v]) (by rw [List.length_append, List.length_append, el]; rfl) (rr.append (.cons ry .nil)))
    rw [← zip_put el hf] at key
    refine ⟨_, e1, _, C, dx, _, rfl, hl', by rw [hX.K]; exact hC, by rw [hX.K]; exact hn, ?_, Z1, _, s1.le, key, q1⟩
    rw [List.length_zip, el, Nat.min_self, ← el]; exact hl
/-- a field of one's own instance -/
theorem we_fldO (i : Nat) {x f : Str} {p : Pos} {q C : Addr} {ns : List Str} {l : List D} {d : D} (hN : c.N[i]? = some x) (hv : Vis c.sc x) (hi : Δ[i]? = some (some (.oi q C ns l))) (hC : Cls c.K C) (hn : NoAttr c.K C f) (hf : (ns.zip l).lookup f = some d) (qq : Q d)
    (hb : ∀ env w, attributeBase (.Name x p) f env w = w := by intro _ _; rfl)
    (hd : (x == ("__debug__" : Str)) = false := by decide) (hcd : (x == ("__classdict__" : Str)) = false := by decide) : WE c (.Attribute (.Name x p) f pos) Q Δ := fun X H0 Z0 hX σ H Z hS => by
  refine We.of (pe_fld (pe_var (i := i) (by rw [hX.N]; exact hN) (by rw [hX.sc]; exact hv) hd hcd) (hb _ _)) ?_
  obtain ⟨l', o, e1, h0, zl, hl', ow⟩ := hS.getO hi rfl
  cases ow with
  | ins el rr =>
    obtain ⟨w, hw, rw'⟩ := rr.lookup hf
    exact ⟨_, e1, _, C, _, _, w, rfl, hl', by rw [hX.K]; exact hC, by rw [hX.K]; exact hn, hw, Z, d, .refl hS.ok, rw', qq⟩
end
end DL
end
section
set_option Elab.async false
set_option linter.all false
set_option maxRecDepth 100000
set_option maxHeartbeats 4000000
/-! DL9: dicts of one's own; the pen. -/
namespace DL
open PySem PySem.Spec PyProof.Rows L2
section
variable {κ : Type} [DecidableEq κ]
def lookD : List κ → List D → κ → Option D
  | k' :: ks, d :: ds, k => if k' = k then some d else lookD ks ds k
  | _, _, _ => none
def setD : List κ → List D → κ → D → List D
  | k' :: ks, d :: ds, k, x => (if k' = k then x else d) :: setD ks ds k x
  | _, _, _, _ => []
theorem look_rel {K : PySem.W.Frag} {Z : Sh} : ∀ {ks : List κ} {vs : List V} {ds : List D} {k : κ}, Rps K Z vs ds → (lookD ks ds k = none → valV (ks.zip vs) k = none) ∧ ∀ d, lookD ks ds k = some d → ∃ v, valV (ks.zip vs) k = some v ∧ Rp K Z v d
  | [], vs, ds, k, r => ⟨fun _ => by cases vs <;> rfl, fun d h => by cases ds <;> cases h⟩
  | k' :: ks, _, _, k, .nil => ⟨fun _ => rfl, fun d h => by cases h⟩
  | k' :: ks, _, _, k, .cons (v := v) (d := d0) r t => by
    have ih := look_rel (ks := ks) (k := k) t
    by_cases e : k' = k
    · refine ⟨fun h => ?_, fun d h => ?_⟩
      · unfold lookD at h; rw [if_pos e] at h; cases h
      · unfold lookD at h; rw [if_pos e] at h; cases h
        exact ⟨v, by rw [List.zip_cons_cons]; exact valV_pos e, r⟩
    · refine ⟨fun h => ?_, fun d h => ?_⟩
      · unfold lookD at h; rw [if_neg e] at h
        rw [List.zip_cons_cons, valV_neg (show ¬ (k', v).1 = k from e)]; exact ih.1 h
      · unfold lookD at h; rw [if_neg e] at h
        rw [List.zip_cons_cons, valV_neg (show ¬ (k', v).1 = k from e)]; exact ih.2 d h
theorem setD_len : ∀ {ks : List κ} {ds : List D} {k : κ} {x : D}, ks.length = ds.length → (setD ks ds k x).length = ds.length
  | [], [], _, _, _ => rfl
  | _ :: ks, _ :: ds, k, x, h => by unfold setD; rw [List.length_cons, setD_len (by simpa using h)]; rfl
  | [], _ :: _, _, _, h => by simp at h
  | _ :: _, [], _, _, h => by simp at h
theorem any_key : ∀ {ks : List κ} {vs : List V} {k : κ}, ks.length = vs.length → ((ks.zip vs).any fun kv => decide (kv.1 = k)) = decide (k ∈ ks)
  | [], [], _, _ => by simp
  | k' :: ks, v :: vs, k, h => by
    rw [List.zip_cons_cons, List.any_cons, any_key (by simpa using h)]
    by_cases e : k' = k
    · subst e; simp
    · have e' : ¬ k = k' := fun z => e z.symm
      simp [e, e']
  | [], _ :: _, _, h => by simp at h
  | _ :: _, [], _, h => by simp at h
/-- the pairs behind d[k] = x, the key there already -/
theorem put_old {K : PySem.W.Frag} {Z : Sh} {k : κ} {v : V} {x : D} (rx : Rp K Z v x) : ∀ {ks : List κ} {vs : List V} {ds : List D}, ks.length = vs.length → Rps K Z vs ds → ∃ ws, (ks.zip vs).map (fun kv => if kv.1 = k then (kv.1, v) else kv) = ks.zip ws ∧ ks.length = ws.length ∧ Rps K Z ws (setD ks ds k x)
  | [], [], _, _, .nil => ⟨[], rfl, rfl, .nil⟩
  | k' :: ks, u :: vs, d :: ds, h, .cons r t => by
    obtain ⟨ws, e1, e2, e3⟩ := put_old rx (ks := ks) (by simpa using h) t
    by_cases e : k' = k
    · refine ⟨v :: ws, ?_, by simpa using e2, ?_⟩
      · rw [List.zip_cons_cons, List.map_cons, e1, if_pos e]; rfl
      · unfold setD; rw [if_pos e]; exact .cons rx e3
    · refine ⟨u :: ws, ?_, by simpa using e2, ?_⟩
      · rw [List.zip_cons_cons, List.map_cons, e1, if_neg e]; rfl
      · unfold setD; rw [if_neg e]; exact .cons r e3
  | [], _ :: _, _, h, _ => by simp at h
  | _ :: _, [], _, h, _ => by simp at h
def putKs (ks : List κ) (k : κ) : List κ := if k ∈ ks then ks else ks ++ [k]
def putDs (ks : List κ) (ds : List D) (k : κ) (x : D) : List D := if k ∈ ks then setD ks ds k x else ds ++ [x]
theorem put_rel {K : PySem.W.Frag} {Z : Sh} {k : κ} {v : V} {x : D} (rx : Rp K Z v x) {ks : List κ} {vs : List V} {ds : List D} (h : ks.length = vs.length) (r : Rps K Z vs ds) : ∃ ws, putK (ks.zip vs) k v = (putKs ks k).zip ws ∧ (putKs ks k).length = ws.length ∧ Rps K Z ws (putDs ks ds k x) := by
  unfold putK putKs putDs
  rw [any_key h]
  by_cases e : k ∈ ks
  · rw [if_pos (decide_eq_true e), if_pos e, if_pos e]
    exact put_old rx h r
  · rw [if_neg (by simp [e]), if_neg e, if_neg e]
    refine ⟨vs ++ [v], ?_, by simp [h], r.append (.cons rx .nil)⟩
    rw [List.zip_append h]; rfl
end
/-- the key that a plain value is -/
def D.key : D → Option Key
  | .int i => some (.inl i)
  | .str x => some (.inr x)
  | _ => none
theorem key_of {K : PySem.W.Frag} {Z : Sh} {v : V} {d : D} {k : Key} (h : d.key = some k) (r : Rp K Z v d) : v = kV k := by
  cases d with
  | int i => cases r; cases h; rfl
  | str x => cases r; cases h; rfl
  | _ => cases h
section
variable {c : Cf} {e a b : Expr} {es : List Expr} {Q : D → Prop} {T : Te} {Δ : Dl} {pos : Pos}
theorem CtxOk.hu {H0 Z0 X} (hX : CtxOk c H0 Z0 X) (hh : c.hot = none) : X.A.units + 1 < cLine := hu_of (hX.room hh)
/-- x[k], x one's own dict -/
theorem we_getK (i : Nat) {x : Str} {p : Pos} {q : Addr} {ks : List Key} {l : List D} (hN : c.N[i]? = some x) (hv : Vis c.sc x) (hi : Δ[i]? = some (some (.oK q ks l))) (h : WE c b (fun y => ∃ k d, y.key = some k ∧ lookD ks l k = some d ∧ Q d) Δ) (hs : NoSl b := by exact fun _ _ => rfl)
    (hd : (x == ("__debug__" : Str)) = false := by decide) (hcd : (x == ("__classdict__" : Str)) = false := by decide) (hh : c.hot = none := by rfl) : WE c (.Subscript (.Name x p) b pos) Q Δ := fun X H0 Z0 hX σ H Z hS => by
  refine We.of (pe_dget (hX.hu hh) (pe_var (i := i) (by rw [hX.N]; exact hN) (by rw [hX.sc]; exact hv) hd hcd) pe_we hs) ?_
  obtain ⟨l', o, e1, h0, zl, hl, ow⟩ := hS.getO hi rfl
  refine ⟨_, e1, ?_⟩
  refine (h X H0 Z0 hX σ H Z hS).mono fun v H1 ⟨Z1, y, s1, ry, k, d, hk, hlk, qq⟩ => ?_
  have kk := s1.keep l' o hl zl ow.nbo
  cases ow with
  | dK el rr =>
    obtain ⟨w, hw, rw'⟩ := (look_rel (ks := ks) (k := k) rr).2 d hlk
    have ev := key_of hk ry
    subst ev
    refine ⟨_, w, rfl, ?_, Z1, d, s1, rw'.le s1.le, qq⟩
    rw [← hw]; exact DGet.k kk.1
/-- x[k] = e, x one's own dict -/
theorem ws_putK (i : Nat) {x : Str} {p p2 : Pos} {q : Addr} {ks : List Key} {l : List D} (hN : c.N[i]? = some x) (hv : Vis c.sc x) (hi : Δ[i]? = some (some (.oK q ks l)))
    (h : WE c e (fun y => WE c b (fun kd => ∃ k, kd.key = some k ∧ ks.length < sizeLine ∧ T.nx (Δ.set i (some (.oK q (putKs ks k) (putDs ks l k y))))) Δ) Δ) (hs : ∀ env, swapsWith e (some (.Subscript (.Name x p) b p2)) pos.line env = pure false := by intro _; rfl)
    (hd : (x == ("__debug__" : Str)) = false := by decide) (hcd : (x == ("__classdict__" : Str)) = false := by decide) (hh : c.hot = none := by rfl) : WS c (.Assign [.Subscript (.Name x p) b p2] e pos) T Δ := fun X H0 Z0 hX σ H Z hS => by
  refine Ws.of (ps_dput (hX.hu hh) (pe_var (i := i) (by rw [hX.N]; exact hN) (by rw [hX.sc]; exact hv) hd hcd) pe_we pe_we (hs _)) ?_
  refine (h X H0 Z0 hX.toCtxOk σ H Z hS).mono fun v H1 ⟨Z1, y, s1, ry, q1⟩ => ?_
  have hS1 := hS.step s1
  obtain ⟨l', o, e1, h0, zl, hl, ow⟩ := hS1.getO hi rfl
  refine ⟨_, e1, ?_⟩
  refine (q1 X H0 Z0 hX.toCtxOk σ H1 Z1 hS1).mono fun u H2 ⟨Z2, kd, s2, rk, k, hk, hz, qq⟩ => ?_
  have kk := s2.keep l' o hl zl ow.nbo
  have ev := key_of hk rk
  subst ev
  cases ow with
  | dK el rr =>
    obtain ⟨ws, hw1, hw2, hw3⟩ := put_rel (k := k) (ry.le s2.le) el (rr.le s2.le)
    refine ⟨_, _, rfl, .k kk.1 (by rw [List.length_zip, ← el, Nat.min_self]; exact hz), Z2, _, s1.le.trans s2.le, ?_, qq⟩
    rw [hw1]
    exact (hS1.step s2).put hi rfl e1 (.dK hw2 hw3)
theorem we_inK (i : Nat) {x : Str} {p : Pos} {q : Addr} {ks : List Key} {l : List D} (hN : c.N[i]? = some x) (hv : Vis c.sc x) (hi : Δ[i]? = some (some (.oK q ks l))) (h : WE c a (fun y => ∃ k, y.key = some k ∧ Q (.bl (lookD ks l k).isSome)) Δ)
    (hd : (x == ("__debug__" : Str)) = false := by decide) (hcd : (x == ("__classdict__" : Str)) = false := by decide) (hh : c.hot = none := by rfl) : WE c (.Compare a [.In] [.Name x p] pos) Q Δ := fun X H0 Z0 hX σ H Z hS => by
  refine We.of (pe_cmp (pc_din (hX.hu hh) pe_we (pe_var (i := i) (by rw [hX.N]; exact hN) (by rw [hX.sc]; exact hv) hd hcd)) rfl) ?_
  refine (h X H0 Z0 hX σ H Z hS).mono fun v H1 ⟨Z1, y, s1, ry, k, hk, qq⟩ => ?_
  obtain ⟨l', o, e1, h0, zl, hl, ow⟩ := (hS.step s1).getO hi rfl
  have ev := key_of hk ry
  subst ev
  cases ow with
  | dK el rr =>
    refine ⟨_, e1, _, _, rfl, DGet.k hl, Z1, _, s1, ?_, qq⟩
    cases q2 : lookD ks l k with
    | none => rw [(look_rel (ks := ks) (k := k) rr).1 q2]; exact .bl
    | some d =>
      obtain ⟨w, hw, _⟩ := (look_rel (ks := ks) (k := k) rr).2 d q2
      rw [hw]; exact .bl
theorem we_niK (i : Nat) {x : Str} {p : Pos} {q : Addr} {ks : List Key} {l : List D} (hN : c.N[i]? = some x) (hv : Vis c.sc x) (hi : Δ[i]? = some (some (.oK q ks l))) (h : WE c a (fun y => ∃ k, y.key = some k ∧ Q (.bl (!(lookD ks l k).isSome))) Δ)
    (hd : (x == ("__debug__" : Str)) = false := by decide) (hcd : (x == ("__classdict__" : Str)) = false := by decide) (hh : c.hot = none := by rfl) : WE c (.Compare a [.NotIn] [.Name x p] pos) Q Δ := fun X H0 Z0 hX σ H Z hS => by
  refine We.of (pe_cmp (pc_dnotin (hX.hu hh) pe_we (pe_var (i := i) (by rw [hX.N]; exact hN) (by rw [hX.sc]; exact hv) hd hcd)) rfl) ?_
  refine (h X H0 Z0 hX σ H Z hS).mono fun v H1 ⟨Z1, y, s1, ry, k, hk, qq⟩ => ?_
  obtain ⟨l', o, e1, h0, zl, hl, ow⟩ := (hS.step s1).getO hi rfl
  have ev := key_of hk ry
  subst ev
  cases ow with
  | dK el rr =>
    refine ⟨_, e1, _, _, rfl, DGet.k hl, Z1, _, s1, ?_, qq⟩
    cases q2 : lookD ks l k with
    | none => rw [(look_rel (ks := ks) (k := k) rr).1 q2]; exact .bl
    | some d =>
      obtain ⟨w, hw, _⟩ := (look_rel (ks := ks) (k := k) rr).2 d q2
      rw [hw]; exact .bl
end
end DL
end
section
set_option Elab.async false
set_option linter.all false
set_option maxRecDepth 100000
set_option maxHeartbeats 4000000
/-! DL10: the script, the pen and its draws. -/
namespace DL
open PySem PySem.Spec PyProof.Rows L2
section
variable {c : Cf} {e a b : Expr} {es : List Expr} {Q : D → Prop} {T : Te} {Δ : Dl} {pos : Pos}
/-! ### the script -/
theorem Rp.scr_inv {K : PySem.W.Frag} {Z : Sh} {H : Hp} {v : V} {ns : List Int} (ok : OkZ H Z) (r : Rp K Z v (.scr ns)) : ∃ p, v = .ref p ∧ SqL K H p (ns.map V.int) ∧ ∀ H' Z', Le Z Z' → OkZ H' Z' → SqL K H' p (ns.map V.int) := by
  cases r with
  | scrK h => exact ⟨_, rfl, .inr h, fun _ _ _ _ => .inr h⟩
  | scrL z => exact ⟨_, rfl, .inl (.inl (fz_at (.refl _) ok z)), fun _ _ le ok' => .inl (.inl (fz_at le ok' z))⟩
  | scrF z => exact ⟨_, rfl, .inl (.inr ⟨_, fz_at (.refl _) ok z⟩), fun _ _ le ok' => .inl (.inr ⟨_, fz_at le ok' z⟩)⟩
theorem scr_inj {K : PySem.W.Frag} {Z : Sh} {H : Hp} {p : Addr} {ns : List Int} {ys : List V} (ok : OkZ H Z) (kz : ∀ a, K.lookup a ≠ none → Z a = none ∧ H a = none) (r : Rp K Z (.ref p) (.scr ns)) (h : SqL K H p ys) : ys = ns.map V.int := by
  cases r with
  | scrK hk =>
    obtain ⟨o, its, n, e1, _, _, e4, _, e6⟩ := hk
    obtain ⟨z, hz⟩ := kz p (by rw [e1]; simp)
    rcases h with (h | ⟨_, h⟩) | ⟨o', its', n', f1, _, _, f4, _, f6⟩
    · rw [hz] at h; cases h
    · rw [hz] at h; cases h
    · rw [e1] at f1; cases f1
      rw [e4] at f4; cases f4
      exact f6.inj e6
  | scrL z =>
    have hp := fz_at (.refl _) ok z
    rcases h with (h | ⟨_, h⟩) | ⟨o', its', n', f1, _⟩
    · rw [hp] at h; cases h; rfl
    · rw [hp] at h; cases h
    · have := (kz p (by rw [f1]; simp)).2; rw [hp] at this; cases this
  | scrF z =>
    have hp := fz_at (.refl _) ok z
    rcases h with (h | ⟨_, h⟩) | ⟨o', its', n', f1, _⟩
    · rw [hp] at h; cases h
    · rw [hp] at h; cases h; rfl
    · have := (kz p (by rw [f1]; simp)).2; rw [hp] at this; cases this
theorem vc_lstScr {ns : List Int} (q : Q (.ol (ns.map D.int))) : VC c (.type "list") [.scr ns] Q := fun X _ _ hX H Z vs ok r => by
  obtain ⟨v, rfl, r1⟩ := r.one
  obtain ⟨p, rfl, hp, _⟩ := r1.scr_inv ok
  exact ⟨_, call_list_of, p, _, rfl, .inl (by rw [hX.K]; exact hp), fun l hl => opost_newL ok hl (Rps.ints ns) q⟩
theorem vc_lenScr {ns : List Int} (q : Q (.int ns.length)) : VC c (.builtin "len") [.scr ns] Q := fun X _ _ hX H Z vs ok r => by
  obtain ⟨v, rfl, r1⟩ := r.one
  obtain ⟨p, rfl, hp, _⟩ := r1.scr_inv ok
  exact ⟨_, call_len_seq, p, _, rfl, .inl (by rw [hX.K]; exact hp), opost ok .int (by rw [List.length_map]; exact q)⟩
/-- for x in script -/
theorem wi_scr {tg : Expr} {Q : List D → Prop} (h : WE c e (fun d => ∃ ns, d = .scr ns ∧ Q (ns.map D.int)) Δ) : WI c tg e Q Δ := fun X H0 Z0 hX σ H Z hS => by
  refine Wi.of (pi_list pe_we) ((h X H0 Z0 hX σ H Z hS).mono fun v H1 ⟨Z1, d, s1, r1, ns, ed, q⟩ => ?_)
  subst ed
  obtain ⟨p, rfl, hp, later⟩ := r1.scr_inv s1.ok
  refine ⟨p, rfl, ⟨_, by rw [hX.K]; exact hp⟩, Z1, _, s1, fun H' Z' le ok i => ⟨fun x hx => ?_, fun hn => ?_⟩, q⟩
  · have hp' := later H' Z' le ok
    rw [List.getElem?_map] at hx
    cases e2 : ns[i]? with
    | none => rw [e2] at hx; cases hx
    | some n =>
      rw [e2] at hx; cases hx
      have hm : (ns.map V.int)[i]? = some (.int n) := by rw [List.getElem?_map, e2]; rfl
      rw [hX.K]
      exact ⟨⟨_, _, hp', hm⟩, fun v H'' ⟨e, k⟩ => by
        subst e
        have := k _ hp'
        rw [hm] at this; cases this
        exact ⟨Z', .refl ok, .int⟩⟩
  · rw [hX.K]
    refine ⟨_, later H' Z' le ok, ?_⟩
    have := List.getElem?_eq_none_iff.mp hn
    simpa using this

/-! ### the pen is made -/
theorem merge_new : ∀ {more acc : List (Key × V)}, ((acc ++ more).map (·.1)).Nodup → mergeK acc more = acc ++ more
  | [], acc, _ => by unfold mergeK; simp
  | (k, v) :: more, acc, h => by
    have hk : k ∉ acc.map (·.1) := by
      rw [List.map_append, List.map_cons] at h
      have := (List.nodup_append.mp h).2.2
      intro m
      exact this k m k List.mem_cons_self rfl
    have e1 : putK acc k v = acc ++ [(k, v)] := by
      unfold putK
      rw [if_neg]
      intro t
      obtain ⟨p, hp, e⟩ := List.any_eq_true.mp t
      exact hk (List.mem_map.mpr ⟨p, hp, of_decide_eq_true e⟩)
    have e2 : mergeK acc ((k, v) :: more) = mergeK (acc ++ [(k, v)]) more := by
      unfold mergeK
      rw [List.foldl_cons, e1]
    rw [e2, merge_new (by rw [List.append_assoc]; exact h), List.append_assoc]; rfl
def penK : List Key := [.inr "cells", .inr "at", .inr "digits", .inr "count", .inr "fold"]
theorem penK_nodup : penK.Nodup := by decide +kernel
theorem we_pen {v1 v2 v3 v4 v5 : Expr} {j1 j2 j3 j4 j5 : Nat} {p1 p2 p3 p4 p5 : Pos}
    (h : WE c v1 (fun d1 => ∃ ns : List Int, d1 = .lst (ns.map D.int) ∧ WE c v2 (fun d2 => ∃ a : Int, d2 = .int a ∧ 0 ≤ a ∧ WE c v3 (fun d3 => ∃ d : Int, d3 = .int d ∧ 0 ≤ d ∧ WE c v4 (fun d4 => ∃ k : Int, d4 = .int k ∧ WE c v5 (fun d5 => ∃ f : Int, d5 = .int f ∧ 0 ≤ f ∧ Q .pen) Δ) Δ) Δ) Δ) Δ) :
    WE c (.Dict [some (.Constant (.str "cells") j1 p1), some (.Constant (.str "at") j2 p2), some (.Constant (.str "digits") j3 p3), some (.Constant (.str "count") j4 p4), some (.Constant (.str "fold") j5 p5)] [v1, v2, v3, v4, v5] pos) Q Δ := fun X H0 Z0 hX σ H Z hS => by
  refine We.of (pe_disp (pps_cons pe_str pe_we (pps_cons pe_str pe_we (pps_cons pe_str pe_we (pps_cons pe_str pe_we (pps_cons pe_str pe_we pps_nil))))) rfl rfl (fun z => by cases z) (by show 5 ≤ 15; decide)) ?_
  intro p hp
  have zp := hS.ok.none hp
  have s0 : Stp H Z (upd H p (.dK [])) Z := .new hS.ok hp
  refine (h X H0 Z0 hX σ _ Z (hS.step s0)).mono fun w1 H1 ⟨Z1, d1, s1, r1, ns, e1, h2⟩ => ?_
  refine (h2 X H0 Z0 hX σ _ _ ((hS.step s0).step s1)).mono fun w2 H2 ⟨Z2, d2, s2, r2, aa, e2, ha, h3⟩ => ?_
  refine (h3 X H0 Z0 hX σ _ _ (((hS.step s0).step s1).step s2)).mono fun w3 H3 ⟨Z3, d3, s3, r3, dd, e3, hd, h4⟩ => ?_
  refine (h4 X H0 Z0 hX σ _ _ ((((hS.step s0).step s1).step s2).step s3)).mono fun w4 H4 ⟨Z4, d4, s4, r4, kk, e4, h5⟩ => ?_
  refine (h5 X H0 Z0 hX σ _ _ (((((hS.step s0).step s1).step s2).step s3).step s4)).mono fun w5 H5 ⟨Z5, d5, s5, r5, ff, e5, hf, q⟩ => ?_
  subst e1; subst e2; subst e3; subst e4; subst e5
  have sAll := (((s1.trans s2).trans s3).trans s4).trans s5
  have kp := sAll.keep p _ upd_same zp ⟨fun ps e => (nomatch e), fun c q e => (nomatch (show _ = HO.ext _ from e)), fun vs e => (nomatch e)⟩
  obtain ⟨l, vs, rfl, _, zl, rl⟩ := (r1.le (((s2.trans s3).trans s4).trans s5).le).lst_inv s5.ok
  cases r2; cases r3; cases r4; cases r5
  rw [rl.of_ints] at zl
  refine ⟨kp.1, [(.inr "cells", .ref l), (.inr "at", .int aa), (.inr "digits", .int dd), (.inr "count", .int kk), (.inr "fold", .int ff)], rfl, by show 5 ≤ 15; decide, ?_⟩
  have em : mergeK [] [((.inr "cells" : Key), V.ref l), (.inr "at", .int aa), (.inr "digits", .int dd), (.inr "count", .int kk), (.inr "fold", .int ff)] = [(.inr "cells", .ref l), (.inr "at", .int aa), (.inr "digits", .int dd), (.inr "count", .int kk), (.inr "fold", .int ff)] := by
    exact merge_new (acc := []) penK_nodup
  rw [em]
  have st : Stp H Z (upd H5 p (penO l aa dd kk ff)) Z5 := (s0.trans sAll).own (.of hp) kp.2
  have st2 : Stp H Z (upd H5 p (penO l aa dd kk ff)) (shr Z5 p (penP l)) := st.share (.of hp) kp.2 upd_same ⟨aa, dd, kk, ff, ha, hd, hf, rfl⟩ .pen
  have nl : l ≠ p := fun e => by rw [e, kp.2] at zl; cases zl
  exact ⟨_, .pen, st2, .pen shr_same (by rw [shr_ne nl]; exact zl), q⟩
end

/-! ### draws -/
def spDraw : DSp := fun ds Q _ => ∃ n : Int, ds = [.pen, .int n] ∧ 1 ≤ n ∧ n < 18446744073709551616 ∧ ∀ r : Int, 0 ≤ r → r < n → Q (.int r)
def penD (l : Addr) (ns : List Int) (a d k f : Int) : List D := [.lsA l (ns.map D.int), .int a, .int d, .int k, .int f]
section
variable {P : Program} {w : World} {K : PySem.W.Frag} {mg : Str → Option Value} {base : Heap}
theorem unshr_ne {Z : Sh} {a p : Addr} (h : a ≠ p) : unshr Z p a = Z a := by unfold unshr; rw [if_neg h]
theorem unshr_same {Z : Sh} {p : Addr} : unshr Z p p = none := by unfold unshr; rw [if_pos rfl]
theorem penP_tup {l : Addr} {us : List V} (h : penP l = fz (.tup us)) : False := by
  have : penP l (.tup us) := by rw [h]; rfl
  obtain ⟨_, _, _, _, _, _, _, e⟩ := this
  cases e
theorem draw_ok {x qual : Str} {st : Stmt} {f : Addr} {fd : FuncData} {N : List Str} {k : Nat} (F : Fun K x qual st f fd) (S : FnScope N ["pen", "many"] (defScope st))
    (h : ∀ (q l : Addr) (ns : List Int) (a d kk ff n : Int), 0 ≤ a → 0 ≤ d → 0 ≤ ff → 1 ≤ n → n < 18446744073709551616 →
      WB ⟨P, w, K, mg, base, N, defScope st, k, fun _ => False, fun _ => true, none, none⟩ (defBody st) ⟨fun _ => False, fun r Δ => ∃ i a' d' k' f' : Int, r = .int i ∧ 0 ≤ i ∧ i < n ∧ Δ[0]? = some (some (.oK q penK (penD l ns a' d' k' f'))) ∧ 0 ≤ a' ∧ 0 ≤ d' ∧ 0 ≤ f', fun _ => False, fun _ => False⟩
        (startD N [.oK q penK (penD l ns a d kk ff), .int n])) : FnOk P w K mg base (L2.CX P w) (k + 1) f fd ["pen", "many"] (lift K spDraw) := by
  refine F.okX S (fun vs H Q E ⟨Z, ds, Q0, E0, ok, r, ⟨n, ed, _⟩, _⟩ => by rw [r.length, ed]; rfl) fun cdv A outer s H vs Q E hr hsp => ?_
  obtain ⟨Z, ds, Q0, E0, ok, r, ⟨n, rfl, n1, n2, hq⟩, kq, ke⟩ := hsp
  obtain ⟨vp, vn, rfl, rp, rn⟩ := r.two
  cases rn
  cases rp with
  | pen zq zl =>
    rename_i q l ns
    obtain ⟨o, hq', a, d, kk, ff, ha, hd, hf, rfl⟩ := ok _ _ zq
    have nlq : l ≠ q := fun e => by
      subst e
      have e1 := fz_at (.refl _) ok zl
      rw [hq'] at e1; cases e1
    refine ⟨_, pss_we, ?_⟩
    have tk : Takes (cxOf (L2.CX P w) P w K mg base N qual (defScope st) f cdv A outer s H E) (fun cls d _ H => E cls d H) := takes_of rfl rfl rfl rfl
    have hX : CtxS ⟨P, w, K, mg, base, N, defScope st, k, fun _ => False, fun _ => true, none, none⟩ (hideA H q) (unshr Z q) (cxOf (L2.CX P w) P w K mg base N qual (defScope st) f cdv A outer s H E) :=
      { P := rfl, w := rfl, K := rfl, mg := rfl, base := rfl, N := rfl, sc := rfl, calm := fun _ => rfl, su := fun _ _ _ z => (nomatch z), lm := fun _ z => (nomatch z), room := fun _ => hr, nd := S.nd, fn := fun _ _ _ => .inl rfl,
        tk := tk.imp fun cls d σ H' ⟨Z', y, st', rx, hw⟩ => hw.elim, own := passes_of rfl }
    have okU : OkZ H (unshr Z q) := ⟨fun a φ e => by
      have ne : a ≠ q := fun z => by rw [z, unshr_same] at e; cases e
      rw [unshr_ne ne] at e; exact ok a φ e, fun a φ vs e => by
      have ne : a ≠ q := fun z => by rw [z, unshr_same] at e; cases e
      rw [unshr_ne ne] at e; exact ok.tp a φ vs e, fun a sp e => by
      have ne : a ≠ q := fun z => by rw [z, unshr_same] at e; cases e
      rw [unshr_ne ne] at e
      exact (ok.kp a sp e).imp (fun b vs z => unshr_tup (fun us z2 => by rw [zq] at z2; exact penP_tup (Option.some.inj z2)) z) fun o e _ => e⟩
    have zl' : unshr Z q l = some (fz (.lst (ns.map V.int))) := by rw [unshr_ne nlq]; exact zl
    have slots : Slots K (hideA H q) (unshr Z q) (L2.start N [.ref q, .int n]) H (unshr Z q) (startD N [.oK q penK (penD l ns a d kk ff), .int n]) := by
      have gets : ∀ (i : Nat) (dd : D), (startD N [.oK q penK (penD l ns a d kk ff), .int n])[i]? = some (some dd) → (i = 0 ∧ dd = .oK q penK (penD l ns a d kk ff)) ∨ (i = 1 ∧ dd = .int n) := fun i dd e => by
        unfold startD at e
        match i, e with
        | 0, e => simp at e; exact .inl ⟨rfl, e.symm⟩
        | 1, e => simp at e; exact .inr ⟨rfl, e.symm⟩
        | i + 2, e =>
          rw [List.getElem?_append_right (by simp), List.getElem?_replicate] at e
          split at e <;> cases e
      refine ⟨okz_hide okU unshr_same, stp_hide okU, ?_, fun i dd e => ?_, fun i j d1 d2 l' e1 e2 o1 o2 _ _ => ?_⟩
      · unfold L2.start startD; simp
      · rcases gets i dd e with ⟨rfl, rfl⟩ | ⟨rfl, rfl⟩
        · refine ⟨.ref q, by unfold L2.start; simp, .inr ⟨q, _, rfl, .of (by unfold hideA; rw [if_pos rfl]), unshr_same, hq', ?_⟩⟩
          exact .dK (ks := penK) (vs := [.ref l, .int a, .int d, .int kk, .int ff]) rfl (.cons (.lsA zl' (Rps.ints ns)) (.cons .int (.cons .int (.cons .int (.cons .int .nil)))))
        · exact ⟨.int n, by unfold L2.start; simp, .inl .int⟩
      · rcases gets i d1 e1 with ⟨rfl, rfl⟩ | ⟨rfl, rfl⟩
        · rcases gets j d2 e2 with ⟨rfl, rfl⟩ | ⟨rfl, rfl⟩
          · rfl
          · cases o2
        · cases o1
    intro pins s' I
    refine thn (h q l ns a d kk ff n ha hd hf n1 n2 _ _ _ hX _ H _ slots pins s' I) fun fl s2 qq => sp_mono qq (fun σ' H' ⟨Z', Δ', _, hS, z⟩ => z.elim) (fun v H' ⟨Z', dd, σ', Δ', hS, rr, i, a', d', k', f', ed, hi0, hin, e0, ha', hd', hf'⟩ => ?_) (fun _ _ ⟨_, _, _, _, z⟩ => z.elim) fun _ _ ⟨_, _, _, _, z⟩ => z.elim
    subst ed
    obtain ⟨q2, o, e1, h0, zq2, hq2, ow⟩ := hS.getO e0 rfl
    cases ow with
    | dK el rs =>
      rename_i vs
      -- the pen's dict as it lies now
      have hv : ∃ v1 v2 v3 v4 v5, vs = [v1, v2, v3, v4, v5] := by
        match vs, el with
        | [v1, v2, v3, v4, v5], _ => exact ⟨v1, v2, v3, v4, v5, rfl⟩
      obtain ⟨v1, v2, v3, v4, v5, rfl⟩ := hv
      cases rs with
      | cons r1 rs =>
        cases rs with
        | cons r2 rs =>
          cases rs with
          | cons r3 rs =>
            cases rs with
            | cons r4 rs =>
              cases rs with
              | cons r5 rs =>
                cases r1; cases r2; cases r3; cases r4; cases r5
                have leZ : Le Z (shr Z' q (penP l)) := fun b φ e => by
                  by_cases hb : b = q
                  · subst hb
                    rw [zq] at e; cases e; exact shr_same
                  · rw [shr_ne hb]; exact hS.stp.le b φ (by rw [unshr_ne hb]; exact e)
                have okZ' : OkZ H' (shr Z' q (penP l)) := ⟨fun b φ e => by
                  by_cases hb : b = q
                  · subst hb
                    rw [shr_same] at e; cases e
                    exact ⟨_, hq2, a', d', k', f', ha', hd', hf', rfl⟩
                  · rw [shr_ne hb] at e; exact hS.stp.ok b φ e, fun b φ vs e h => by
                  by_cases hb : b = q
                  · subst hb
                    rw [hq2] at h; cases h
                  · rw [shr_ne hb] at e; exact hS.stp.ok.tp b φ vs e h, fun b sp e => by
                  by_cases hb : b = q
                  · subst hb
                    rw [shr_same] at e
                    exact absurd (Option.some.inj e) (Nk.pen sp)
                  · rw [shr_ne hb] at e; exact (hS.stp.ok.kp b sp e).le (Le.shr zq2) fun o e _ => e⟩
                refine kq (.int i) (hq i hi0 hin) v H' (shr Z' q (penP l)) ⟨leZ, okZ', fun b o e z nb => ?_, fun P0 q0 t => ?_, fun P0 q0 z => ?_, fun b o e n => ?_⟩ ?_
                · have hb : b ≠ q := fun x => by rw [x, zq] at z; cases z
                  obtain ⟨k1, k2⟩ := hS.stp.keep b o (by unfold hideA; rw [if_neg hb]; exact e) (by rw [unshr_ne hb]; exact z) nb
                  exact ⟨k1, by rw [shr_ne hb]; exact k2⟩
                · have nq : Nt (penP l) := .pen
                  obtain ⟨nt, z, ps, t1, t2, t3⟩ := t
                  have hb : P0 ≠ q := fun x => by
                    rw [x, zq] at z
                    exact nq.1 #[] (by rw [Option.some.inj z]; exact tabM_tbl #[])
                  have tt : TabZ (unshr Z q) (hideA H q) P0 q0 := ⟨fun a φ z => by
                    by_cases na : a = q
                    · rw [na, unshr_same] at z; cases z
                    · rw [unshr_ne na] at z; exact nt a φ z, by rw [unshr_ne hb]; exact z, ps, by unfold hideA; rw [if_neg hb]; exact t1, t2, fun pos cv e => by
                    obtain ⟨c, e1, zc⟩ := t3 pos cv e
                    refine ⟨c, e1, ?_⟩
                    have nc : c ≠ q := fun x => by
                      rw [x, zq] at zc
                      have e3 := congrFun (Option.some.inj zc) (penO l 0 0 0 0)
                      have e4 : penP l (penO l 0 0 0 0) := ⟨0, 0, 0, 0, Int.le_refl _, Int.le_refl _, Int.le_refl _, rfl⟩
                      rw [e3] at e4
                      exact nomatch (show HO.dK _ = HO.ext _ from e4)
                    rw [unshr_ne nc]; exact zc⟩
                  have k2 := hS.stp.tab P0 q0 tt
                  exact k2.le (Le.shr zq2) (k2.1.shr nq)
                · have nq : Nt (penP l) := .pen
                  obtain ⟨hb, z1⟩ := shr_tab nq z
                  have z2 := hS.stp.tb P0 q0 z1
                  rw [unshr_ne hb] at z2; exact z2
                · by_cases hb : b = q
                  · subst hb; exact ⟨_, hq2, fun ps z => (nomatch (show HO.dK _ = HO.tbl ps from z))⟩
                  · exact hS.stp.stays b o (by unfold hideA; rw [if_neg hb]; exact e) n
                · rcases rr with rr | ⟨_, _, _, _, _, _, rr⟩
                  · cases rr; exact .inl .int
                  · cases rr
end
end DL
end
section
set_option Elab.async false
set_option linter.all false
set_option maxRecDepth 100000
set_option maxHeartbeats 4000000
/-! DL11: enumerate of a tuple, tuple * int, chains, item targets, plain borrowed results. -/
namespace DL
open PySem PySem.Spec PyProof.Rows L2
section
open AutoSeq1 (wpAny_loadPart')
set_option maxHeartbeats 1000000 in
theorem meets_enumerate_new1 {v : Value} {o : Obj} {H : Heap → Prop} (B : Begins v o H) :
    Meets (Builtin.«enumerate.__new__» ⟨[.type "enumerate", v], []⟩) (fun _ R s => H s.heap ∧
      R (.ok (.ret (.ref (s.heap.push o).objs.size))) { s with heap := (s.heap.push o).push { cls := .type "enumerate", data := .fields #[.none, .bool false, .ref s.heap.objs.size, rawInt 0, .none, .none] } }) :=
  .of_wp fun prog w A R s h => by
    obtain ⟨hp, g, d, tk, os⟩ := s; obtain ⟨h1, h⟩ := h
    have hsub := sub_enumerate
    have q1 : ∀ {A' : Around} {E : Value → Shared → Prop} {Q : Value → Shared → Prop}, Q (.ref hp.objs.size) ⟨hp.push o, g, d, tk, os⟩ → wpAny (model prog w) A' (pyIter v) Q E ⟨hp, g, d, tk, os⟩ :=
      fun q => B.iter prog w _ _ ⟨hp, g, d, tk, os⟩ _ h1 q
    wp_walk using q1
    refine wpAny_stack_any fun st => wpAny_pure ?_
    split
    · rename_i c _ _ _ _ _
      cases (c == Value.type "enumerate")
      · wp_walk using q1
        exact ⟨_, rfl, h⟩
      · wp_walk using q1
        exact ⟨_, rfl, h⟩
    · wp_walk using q1
      exact ⟨_, rfl, h⟩
variable {prog : Program} {w : World} {A : Around} {E : Value → Shared → Prop} {s : Shared}
theorem enum_begins1 {v : Value} {o : Obj} {H : Heap → Prop} {Q : Value → Shared → Prop} (B : Begins v o H) (h1 : H s.heap)
    (h : ∀ h', IsEnum h' (s.heap.objs.size + 1) s.heap.objs.size 0 .none → h'.get? s.heap.objs.size = some o → h'.objs.size = s.heap.objs.size + 2 →
      (∀ b o, s.heap.get? b = some o → h'.get? b = some o) → Q (.ref (s.heap.objs.size + 1)) { s with heap := h' }) :
    wpAny (model prog w) A (call (.type "enumerate") [v]) Q E s := by
  refine callType_new F.called_enumerate (by decide) (F.typeCall_enumerate_1 _) (F.newCall_enumerate_1 _) (fun obj => F.args_object_init_2 obj _) F.entry_enumerate_new
    (meets_enumerate_new1 B) ⟨h1, ?_⟩
  have hz : (s.heap.push o).objs.size = s.heap.objs.size + 1 := Heap.size_push ..
  show _ ∧ _
  rw [hz]
  have he : IsEnum ((s.heap.push o).push { cls := .type "enumerate", data := .fields #[.none, .bool false, .ref s.heap.objs.size, rawInt 0, .none, .none] }) (s.heap.objs.size + 1) s.heap.objs.size 0 .none := by
    have := Heap.get?_push_size (s.heap.push o) (o := { cls := .type "enumerate", data := .fields #[.none, .bool false, .ref s.heap.objs.size, rawInt 0, .none, .none] }) rfl
    rw [hz] at this; exact this
  refine ⟨⟨_, he, rfl⟩, h _ he (Heap.get?_push_of_some _ (Heap.get?_push_size _ B.free)) (by rw [Heap.size_push, hz]) fun b o x => Heap.get?_push_of_some _ (Heap.get?_push_of_some _ x)⟩
end
def IteT (K : PySem.W.Frag) (a : Addr) : It :=
  ⟨fun i H => ∃ (xs : List V) (x : V), SqT K H a xs ∧ xs[i]? = some x, fun i H v H' => ∃ T x, v = .ref T ∧ H T = none ∧ H' = upd H T (.tup [.int (i : Nat), x]) ∧ ∀ xs, SqT K H a xs → xs[i]? = some x, fun i H => ∃ xs : List V, SqT K H a xs ∧ xs.length ≤ i⟩
theorem turn_enumT {P : Program} {w : World} {K : PySem.W.Frag} {elts : List Expr} {kk : Nat} {tpos : Pos} (a e it : Addr) :
    Turn P w K (.Tuple elts kk tpos) (IteT K a) [e, it] e (fun i h => (∃ old, IsEnum h e it ((i : Nat) : Int) old) ∧ h.IsTupleIter it a i ∧ e ≠ it ∧ e ≠ a ∧ a ≠ it) where
  mem := by simp
  obj := fun i h st b hb => by
    obtain ⟨⟨old, he⟩, ⟨o, ho, hc, hd⟩, _⟩ := st
    have e' : b = e ∨ b = it := by simpa using hb
    rcases e' with z | z
    · rw [z]; exact ⟨_, he, fun v q => nomatch q⟩
    · rw [z]; exact ⟨o, ho, fun v q => by rw [hd] at q; cases q⟩
  keep := fun i h h' st k => let ⟨⟨old, he⟩, hi, hne⟩ := st; ⟨⟨old, k e (by simp) _ he⟩, hi.at fun o q => k it (by simp) o q, hne⟩
  item := by
    intro X hP hw hK hc i pins s σ H E I hf st hg
    subst hP hw hK
    obtain ⟨⟨old, he⟩, hit, hne, hea, hai⟩ := st
    obtain ⟨xs, x, hq, hx⟩ := hg
    obtain ⟨its, rv, p, hz⟩ := I.tuple hq
    obtain ⟨u, hu, ru⟩ := rv.get hx
    have hel : e < s.heap.objs.size := Heap.lt_size he
    have hil : it < s.heap.objs.size := by obtain ⟨_, q, _⟩ := hit; exact Heap.lt_size q
    have hlt : i < its.toArray.size := by
      rw [List.size_toArray]
      exact (List.getElem?_eq_some_iff.mp hu).1
    refine wpAny_pyNext_enum_itemC (c := ((i : Nat) : Int)) (Draws.tuple (A := X.A.in1) (I.ok.hd hc) it a hai its.toArray) he ⟨hit, p⟩ hlt hne (by simp [hne, hea]) fun x' h' tk hP ho hit' hT hsz hk => ?_
    have hxu : x' = u := by
      have q : its[i]? = some x' := by simpa using hP
      rw [hu] at q; cases q; rfl
    subst hxu
    refine ⟨_, rfl, wpAny_letOwnedTupleGo_enum (s := { s with heap := h', toks := tk + 1 }) ho fun h'' he' sb => ?_⟩
    have hT2 : h''.get? s.heap.objs.size = some { cls := .type "tuple", data := .seq #[.int i tk, x'] } := (sb.2 _ (Nat.ne_of_gt hel)).trans hT
    have new : ObjOk X.prog X.w (upd H s.heap.objs.size (.tup [.int (i : Nat), x])) h'' s.heap.objs.size (.tup [.int (i : Nat), x]) :=
      ⟨by show 2 ≤ sizeLine; decide, [.int i tk, x'], .cons ⟨_, rfl⟩ (.cons ru .nil), ⟨_, hT2, rfl, _, rfl⟩⟩
    have I1 : Inv X pins σ (upd H s.heap.objs.size (.tup [.int (i : Nat), x])) { s with heap := h'', toks := tk + 1 } :=
      I.turnedNew (ch := [e, it]) (fun b ob hb q => (sb.2 b (fun z => hb (by simp [z]))).trans (hk b ob (fun z => hb (by simp [z])) (fun z => hb (by simp [z])) q)) hf (Nat.le_refl _) new
    refine ⟨.ref s.heap.objs.size, _, I1, rfl, ⟨_, x, rfl, I.hok.fresh (Nat.le_refl _), rfl, fun ys hy => by rw [I.tuple_inj hy hq]; exact hx⟩, ⟨⟨x', ?_⟩, hit'.1.at fun o q => (sb.2 it (Ne.symm hne)).trans q, hne, hea, hai⟩, fun b hb => ?_⟩
    · have e1 : ((i + 1 : Nat) : Int) = (i : Int) + 1 := by omega
      rw [e1]; exact he'
    · have hb' : b < s.heap.objs.size := by
        have e' : b = e ∨ b = it := by simpa using hb
        rcases e' with z | z
        · rw [z]; exact hel
        · rw [z]; exact hil
      rw [upd_ne (Nat.ne_of_lt hb')]
      exact (hf b hb).1
  done := by
    intro X hP hw hK hc i pins s σ H E I hf st hg
    subst hP hw hK
    obtain ⟨⟨old, he⟩, hit, hne, hea, hai⟩ := st
    obtain ⟨xs, hq, hx⟩ := hg
    obtain ⟨its, rv, p, hz⟩ := I.tuple hq
    obtain ⟨f0, f1, f2, f3, f4, f5⟩ := hf it (by simp)
    have hl := rv.length
    have D : Draws X.prog X.w X.A.in1 it [it, a] 0 (fun _ _ => True) (fun _ h => h.IsTupleIter it a i ∧ h.IsTuple a its.toArray) :=
      { live := fun _ _ st => let ⟨o, ho, _⟩ := st.1; ⟨o, ho⟩
        frame := fun _ _ _ st hk => ⟨st.1.at fun o e => hk it (by simp) o e, st.2.at fun o e => hk a (by simp) o e⟩
        item := fun j s Q E hi st hQ => absurd hi (Nat.not_lt_zero _)
        done := fun s Q E st hE => wpAny_nextOf_tuple_end (I.ok.hd hc) st.1 st.2 (by simp; omega) hE }
    exact wpAny_pyNext_enum_endD D he ⟨hit, p⟩ fun h' eb => ⟨rfl, I.turned (t' := s.toks) (fun b o hb q => eb b o hb q) f0 f1 f3 f4 f5⟩
  self := fun A i s Q E st h => let ⟨⟨_, he⟩, _⟩ := st; wpAny_pyIter_enum he h
def iEnumT (K : PySem.W.Frag) (ta : TA) : TI := fun σ H R => ta σ H fun vs H1 => ∃ a xs, vs = [.ref a] ∧ SqT K H1 a xs ∧ R (IteT K a) H1
theorem pi_enumT {X : Cx} {e : Expr} {ta : TA} {p pos tpos : Pos} {elts : List Expr} {kk : Nat} (hg : Gl X "enumerate") (hm : X.mg "enumerate" = none) (ha : PA X [e] ta) (hs : starEach [e] X.env = [(false, eval e X.env)] := by rfl) :
    PI X (.Tuple elts kk tpos) (.Call (.Name "enumerate" p) [e] [] pos) (iEnumT X.K ta) := by
  refine ⟨fun pins s σ H R I h => ?_⟩
  refine Call_ (ld_blt I hg hm boot_enumerate (PyProof.Rows.callWith_type1 (thn (ha.run pos pins s σ H _ I h) fun us s1 ⟨vs, H1, I1, r1, q1⟩ => ?_) hs rfl))
  obtain ⟨a, xs, ex, hq, q⟩ := q1
  subst ex
  cases r1 with
  | cons r rr =>
    cases rr
    cases r
    obtain ⟨its, rv, p', hz⟩ := I1.tuple hq
    have hal : a < s1.heap.objs.size := by obtain ⟨_, q, _⟩ := p'; exact Heap.lt_size q
    refine enum_begins1 (begins_tuple a its.toArray) p' fun h' he hit hsz hk => wpAny_pyIter_enum he ?_
    have I2 : Inv X pins σ H1 { s1 with heap := h' } := I1.kept (t' := s1.toks) hk
    refine ⟨s1.heap.objs.size + 1, [s1.heap.objs.size + 1, s1.heap.objs.size], _, _, H1, rfl, I2, turn_enumT a (s1.heap.objs.size + 1) s1.heap.objs.size, ⟨⟨.none, he⟩, ⟨_, hit, rfl, rfl⟩, Nat.succ_ne_self _, Nat.ne_of_gt (Nat.lt_succ_of_lt hal), Nat.ne_of_lt hal⟩, fun b hb => ?_, q⟩
    have e' : b = s1.heap.objs.size + 1 ∨ b = s1.heap.objs.size := by simpa using hb
    have hle : s1.heap.objs.size ≤ b := by
      rcases e' with z | z
      · rw [z]; exact Nat.le_add_right _ _
      · rw [z]; exact Nat.le_refl _
    exact I1.fpOk hle (I1.hok.fresh hle)
section
variable {c : Cf} {e a b : Expr} {es : List Expr} {Q : D → Prop} {Δ : Dl} {pos : Pos}
theorem wi_enumT {ts : List Expr} {kk : Nat} {tpos p : Pos} {Q : List D → Prop} (hg : Glo c "enumerate") (hm : c.mg "enumerate" = none)
    (h : WE c a (fun x => ∃ xs, x = .tup xs ∧ Q (enums xs)) Δ) (hs : isStar a = false := by rfl) : WI c (.Tuple ts kk tpos) (.Call (.Name "enumerate" p) [a] [] pos) Q Δ := fun X H0 Z0 hX σ H Z hS => by
  refine Wi.of (pi_enumT (hX.gl hg) (by rw [hX.mg]; exact hm) (pa_cons pe_we pa_nil (star1 hs)) (by rw [star1 hs]; rfl)) ?_
  refine (h X H0 Z0 hX σ H Z hS).mono fun v H1 ⟨Z1, x, s1, r1, xs, ex, q⟩ => ?_
  subst ex
  obtain ⟨pa, vs, rfl, hp, zp, rr⟩ := r1.tup_inv s1.ok
  refine ⟨pa, vs, rfl, .of hp, Z1, _, s1, fun H' Z' le ok i => ⟨fun d hd => ?_, fun hn => ?_⟩, q⟩
  · obtain ⟨x, y, hx, hy, rfl⟩ := pairs_get hd
    have hi : i < xs.length := (List.getElem?_eq_some_iff.mp hy).1
    rw [rng_get hi] at hx; cases hx
    obtain ⟨yv, hyv, ry⟩ := rr.get hy
    have h1 := fz_at le ok zp
    refine ⟨⟨vs, yv, .of h1, hyv⟩, fun v H'' ⟨T, y', ev, hT, eH, k1⟩ => ?_⟩
    have a1 := k1 vs (.of h1)
    rw [hyv] at a1; cases a1
    subst ev; subst eH
    have st : Stp H' Z' (upd H' T (.tup [.int (i : Nat), yv])) (shr Z' T (fz (.tup [.int (i : Nat), yv]))) := .newS ok hT rfl
    rw [Int.zero_add]
    exact ⟨_, st, .tup shr_same (.cons .int (.cons ((ry.le le).le st.le) .nil))⟩
  · refine ⟨vs, .of (fz_at le ok zp), ?_⟩
    rw [rr.length]
    rcases pairs_none hn with q | q
    · rw [rng_len] at q; exact q
    · exact q
/-- a op b op' c -/
theorem chain_run {op op' : CmpOp} {z : Expr} {F : VK} {X : Cx} {H0 : Hp} {Z0 : Sh} {σ : L2.St} {H : Hp} {Z : Sh} (h : WE c a (fun x => WE c b (fun y => VO c (compareOp op) x y (fun d => ∃ k, d = .bl k ∧ if k = true then WE c z (fun w => VO c (compareOp op') y w (fun d => Q d.frz)) Δ else Q (.bl false))) Δ) Δ)
    (hX : CtxOk c H0 Z0 X) (hS : Slots c.K H0 Z0 σ H Z Δ) (hF : ∀ v H', oPost c.K H Z (fun d => Q d.frz) v H' → F v H') :
    tChain (fun x y H Q => ∃ r : R2, OpR X (compareOp op) r ∧ r x y H Q) (fun x y H Q => ∃ r : R2, OpR X (compareOp op') r ∧ r x y H Q) (We X a) (We X b) (We X z) σ H F := by
  refine (h X H0 Z0 hX σ H Z hS).mono fun v H1 ⟨Z1, x, s1, r1, q1⟩ => ?_
  refine (q1 X H0 Z0 hX σ H1 Z1 (hS.step s1)).mono fun u H2 ⟨Z2, y, s2, r2, q2⟩ => ?_
  obtain ⟨r, hr, q⟩ := q2 X H0 Z0 hX H2 Z2 v u s2.ok (r1.le s2.le) r2
  refine ⟨fun x1 y1 H Q0 => x1 = v ∧ y1 = u ∧ H = H2 ∧ r v u H2 (oPost c.K H2 Z2 (fun d => ∃ k, d = .bl k ∧ if k = true then WE c z (fun w => VO c (compareOp op') y w (fun d => Q d.frz)) Δ else Q (.bl false))) ∧ ∀ z1 H', oPost c.K H2 Z2 (fun d => ∃ k, d = .bl k ∧ if k = true then WE c z (fun w => VO c (compareOp op') y w (fun d => Q d.frz)) Δ else Q (.bl false)) z1 H' → Q0 z1 H',
    fun pins s σ H x1 y1 vv uu Q0 I rx ry ⟨ex, ey, eH, k, m⟩ => by
      subst ex; subst ey; subst eH
      exact thn (hr pins s σ _ _ _ vv uu _ I rx ry k) fun _ _ ⟨z1, H', I', rz, qz⟩ => ⟨z1, H', I', rz, m z1 H' qz⟩, rfl, rfl, rfl, q, fun z1 H3 ⟨Z3, d, s3, r3, k, ed, q3⟩ => ?_⟩
  subst ed
  have ez : z1 = .bl k := by
    rcases r3 with r3 | ⟨_, _, _, _, _, _, r3⟩
    · cases r3; rfl
    · cases r3
  refine ⟨k, ez, ?_⟩
  cases k with
  | false => exact hF _ _ ⟨Z3, .bl false, (s1.trans s2).trans s3, .inl .bl, q3⟩
  | true =>
    refine (q3 X H0 Z0 hX σ H3 Z3 (((hS.step s1).step s2).step s3)).mono fun w' H4 ⟨Z4, dw, s4, r4, q4⟩ => ?_
    obtain ⟨r', hr', q'⟩ := q4 X H0 Z0 hX H4 Z4 u w' s4.ok ((r2.le s3.le).le s4.le) r4
    exact ⟨fun x y H Q0 => x = u ∧ y = w' ∧ H = H4 ∧ r' u w' H4 (oPost c.K H4 Z4 (fun d => Q d.frz)) ∧ ∀ z H', oPost c.K H4 Z4 (fun d => Q d.frz) z H' → Q0 z H',
      fun pins s σ H x y vv uu Q0 I rx ry ⟨ex, ey, eH, k, m⟩ => by
        subst ex; subst ey; subst eH
        exact thn (hr' pins s σ _ _ _ vv uu _ I rx ry k) fun _ _ ⟨z, H', I', rz, qz⟩ => ⟨z, H', I', rz, m z H' qz⟩, rfl, rfl, rfl, q', fun z H' p => hF z H' (p.mono hS.ok (((s1.trans s2).trans s3).trans s4))⟩
theorem we_chain {op op' : CmpOp} {z : Expr} (h : WE c a (fun x => WE c b (fun y => VO c (compareOp op) x y (fun d => ∃ k, d = .bl k ∧ if k = true then WE c z (fun w => VO c (compareOp op') y w (fun d => Q d.frz)) Δ else Q (.bl false))) Δ) Δ)
    (hm : lastMarks [op, op'] [b, z] = false := by with_unfolding_all rfl) : WE c (.Compare a [op, op'] [b, z] pos) Q Δ := we_of_wo fun X H0 Z0 hX σ H Z hS =>
  We.of (pe_chain op_any op_any pe_we pe_we pe_we hm) (chain_run h hX hS fun _ _ h => h)
theorem wt_chain {op op' : CmpOp} {z : Expr} {Q : Bool → Prop} (h : WE c a (fun x => WE c b (fun y => VO c (compareOp op) x y (fun d => ∃ k, d = .bl k ∧ if k = true then WE c z (fun w => VO c (compareOp op') y w (fun d => ∃ j, d.frz = .bl j ∧ Q j)) Δ else ∃ j, D.bl false = .bl j ∧ Q j)) Δ) Δ)
    (hm : lastMarks [op, op'] [b, z] = false := by with_unfolding_all rfl) : WT c (.Compare a [op, op'] [b, z] pos) Q Δ := fun X H0 Z0 hX σ H Z hS => by
  refine Wt.of (pt_chain op_any op_any pe_we pe_we pe_we hm) (chain_run (Q := fun d => ∃ j, d = .bl j ∧ Q j) h hX hS fun v H' ⟨Z', d, s, r, k, e, q⟩ => ?_)
  rcases r with r | ⟨_, _, _, _, _, _, r⟩
  · have e2 : d = .bl k := by cases r <;> first | exact e | cases e
    subst e2
    cases r; exact ⟨k, rfl, Z', s, q⟩
  · cases r <;> cases e
/-! ### what comes of a borrowed list may hold tuples -/
mutual
def D.tupOnly : D → Bool
  | .non => true | .bl _ => true | .int _ => true | .str _ => true | .ty _ => true | .adr _ => true
  | .tup l => tupOnlys l
  | _ => false
def tupOnlys : List D → Bool
  | [] => true
  | d :: ds => d.tupOnly && tupOnlys ds
end
mutual
theorem Rp.unshr {K : PySem.W.Frag} {Z : Sh} {p : Addr} {ob : HO} (z : Z p = some (fz ob)) (no : ∀ vs, ob ≠ .tup vs) : ∀ {d : D} {v : V}, d.tupOnly = true → Rp K Z v d → Rp K (unshr Z p) v d
  | .non, _, _, .non => .non
  | .bl _, _, _, .bl => .bl
  | .int _, _, _, .int => .int
  | .str _, _, _, .str => .str
  | .ty _, _, _, .ty => .ty
  | .adr _, _, _, .adr => .adr
  | .tup l, _, h, .tup (a := q) (vs := vs) zq r => by
    have ne : q ≠ p := fun e => by
      subst e
      rw [z] at zq
      exact no vs (fz_inj (Option.some.inj zq))
    exact .tup (by unfold DL.unshr; rw [if_neg ne]; exact zq) (Rps.unshr z no h r)
theorem Rps.unshr {K : PySem.W.Frag} {Z : Sh} {p : Addr} {ob : HO} (z : Z p = some (fz ob)) (no : ∀ vs, ob ≠ .tup vs) : ∀ {ds : List D} {vs : List V}, tupOnlys ds = true → Rps K Z vs ds → Rps K (unshr Z p) vs ds
  | [], _, _, .nil => .nil
  | d :: ds, _, h, .cons r t => by
    have h' : (d.tupOnly && tupOnlys ds) = true := h
    rw [Bool.and_eq_true] at h'
    exact .cons (Rp.unshr z no h'.1 r) (Rps.unshr z no h'.2 t)
end
theorem we_borrowT (i : Nat) {l : List D} (hi : Δ[i]? = some (some (.ol l))) (h : WE c e (fun d => d.tupOnly = true ∧ Q d) (Δ.set i (some (.lst l)))) : WE c e Q Δ := fun X H0 Z0 hX σ H Z hS => by
  obtain ⟨p, o, zl, hl, hS2, ow⟩ := hS.letsO hi rfl
  refine (h X H0 Z0 hX σ H _ hS2).mono fun v H' ⟨Z', d, s, r, pt, q⟩ => ⟨_, d, DL.borrow zl hl ow.nbo s, Rp.unshr (s.le p _ shr_same) ?_ pt r, q⟩
  cases ow with
  | lst _ => intro vs e; cases e
/-- xs[b1], ys[b2] = e, xs and ys one's own lists -/
theorem ws_items2 (i j : Nat) {x y : Str} {p p2 p3 p4 tp : Pos} {kk : Nat} {ds es : List D} {b1 b2 : Expr} {T : Te} (hN : c.N[i]? = some x) (hv : Vis c.sc x) (hN2 : c.N[j]? = some y) (hv2 : Vis c.sc y) (hi : Δ[i]? = some (some (.ol ds)))
    (h : WE c e (fun d => ∃ y1 y2, d = .tup [y1, y2] ∧ WE c b1 (fun ix => ∃ n k, ix = .int n ∧ ixN ds.length n = some k ∧ (Δ.set i (some (.ol (ds.set k y1))))[j]? = some (some (.ol es)) ∧ WE c b2 (fun ix2 => ∃ n2 k2, ix2 = .int n2 ∧ ixN es.length n2 = some k2 ∧ T.nx ((Δ.set i (some (.ol (ds.set k y1)))).set j (some (.ol (es.set k2 y2))))) (Δ.set i (some (.ol (ds.set k y1))))) Δ) Δ)
    (hs : ∀ env, swapsWithSole [.Tuple [.Subscript (.Name x p) b1 p2, .Subscript (.Name y p3) b2 p4] kk tp] e pos.line env = pure false := by intro _; rfl)
    (hw : ∀ env, swappedStores [.Tuple [.Subscript (.Name x p) b1 p2, .Subscript (.Name y p3) b2 p4] kk tp] e env = pure none := by intro _; rfl)
    (ha : ∀ env v, assign (.Subscript (.Name x p) b1 p2) env v = (do
      let ov ← holding [v] (eval (.Name x p) env)
      let iv ← holding [v, ov] (eval b1 env)
      standAt p2
      holding [v, ov, iv] (setItem ov iv v)
      release [v, ov, iv] []) := by intro _ _; rfl)
    (ha2 : ∀ env v, assign (.Subscript (.Name y p3) b2 p4) env v = (do
      let ov ← holding [v] (eval (.Name y p3) env)
      let iv ← holding [v, ov] (eval b2 env)
      standAt p4
      holding [v, ov, iv] (setItem ov iv v)
      release [v, ov, iv] []) := by intro _ _; rfl)
    (hd : (x == ("__debug__" : Str)) = false := by decide) (hcd : (x == ("__classdict__" : Str)) = false := by decide)
    (hd2 : (y == ("__debug__" : Str)) = false := by decide) (hcd2 : (y == ("__classdict__" : Str)) = false := by decide) (hh : c.hot = none := by rfl) : WS c (.Assign [.Tuple [.Subscript (.Name x p) b1 p2, .Subscript (.Name y p3) b2 p4] kk tp] e pos) T Δ := fun X H0 Z0 hX σ H Z hS => by
  refine Ws.of (ps_asg pe_we (pg_tup (hX.calm hh) (pgs_cons (pg_sub (pe_var (i := i) (by rw [hX.N]; exact hN) (by rw [hX.sc]; exact hv) hd hcd) pe_we set_list (ha _)) (pgs_cons (pg_sub (pe_var (i := j) (by rw [hX.N]; exact hN2) (by rw [hX.sc]; exact hv2) hd2 hcd2) pe_we set_list (ha2 _)) pgs_nil))) (hs _) (hw _) rfl) ?_
  refine (h X H0 Z0 hX.toCtxOk σ H Z hS).mono fun v H1 ⟨Z1, d, s1, ry, y1, y2, ed, q1⟩ => ?_
  subst ed
  obtain ⟨tq, vs, rfl, hp, zp, rr⟩ := ry.tup_inv s1.ok
  obtain ⟨v1, v2, rfl, rv1, rv2⟩ := rr.two
  refine ⟨tq, _, rfl, .of hp, rfl, v1, [v2], rfl, ?_⟩
  have hS1 := hS.step s1
  obtain ⟨l, o, e1, h0, zl, hl, r⟩ := hS1.getO hi rfl
  refine ⟨_, e1, ?_⟩
  refine (q1 X H0 Z0 hX.toCtxOk σ H1 Z1 hS1).mono fun u H2 ⟨Z2, ix, s2, ri, n, k, en, hk, hj, q⟩ => ?_
  subst en; cases ri
  have hS2 := hS1.step s2
  obtain ⟨l2, o2, e2, _, _, hl2, r2⟩ := hS2.getO hi rfl
  rw [e1] at e2; cases e2
  cases r2 with
  | lst rr2 =>
    have hS3 := hS2.put hi rfl e1 (.lst (rr2.set (rv1.le s2.le) k))
    refine ⟨l, _, n, k, rfl, rfl, hl2, by rw [rr2.length]; exact hk, v2, [], rfl, ?_⟩
    obtain ⟨m, o3, e3, h03, zm, hm, r3⟩ := hS3.getO hj rfl
    refine ⟨_, e3, ?_⟩
    refine (q X H0 Z0 hX.toCtxOk σ _ Z2 hS3).mono fun u H4 ⟨Z4, ix, s4, ri, n2, k2, en, hk2, q4⟩ => ?_
    subst en; cases ri
    have hS4 := hS3.step s4
    obtain ⟨m2, o4, e4, _, _, hm2, r4⟩ := hS4.getO hj rfl
    rw [e3] at e4; cases e4
    cases r4 with
    | lst rr4 => exact ⟨m, _, n2, k2, rfl, rfl, hm2, by rw [rr4.length]; exact hk2, rfl, Z4, _, (s1.le.trans s2.le).trans s4.le, hS4.put hj rfl e3 (.lst (rr4.set ((rv2.le s2.le).le s4.le) k2)), q4⟩
end
end DL
end
section
set_option Elab.async false
set_option linter.all false
set_option maxRecDepth 100000
set_option maxHeartbeats 4000000
/-! DL12: tuple * int. -/
namespace DL
open PySem PySem.Spec PyProof.Rows L2
section
open AutoSeq1 (wpAny_loadPart')
theorem tuple_mul1 (l : Addr) (items : Array Value) (n : Nat) (dd : Option Addr) (sl : Array (Option Value)) (u : Tok) :
    Meets (Builtin.«tuple.__mul__» ⟨[.ref l, .int 1 u], []⟩) (fun _ R s => s.heap.get? l = some { cls := .type "tuple", dict := dd, data := .seq items n, slots := sl } ∧ R (.ok (.ret (Value.ref l))) s) :=
  .of_wp fun prog w A R s h => by
    obtain ⟨hp, g, d, tk, os⟩ := s
    obtain ⟨hl, h⟩ := h
    have f1 := AutoSeq1.idx_int
    have c0 : (decide ((1 : Int) < -(2 ^ 63)) || decide ((1 : Int) ≥ 2 ^ 63)) = false := by decide
    have c1 : (items.isEmpty || (1 : Int) == 1) = true := by simp
    wp_walk using wpAny_loadPart' hl
    repeat (first
      | (refine wpAny_ite_false (decide_eq_false (by rw [c0]; exact Bool.false_ne_true)) ?_; wp_walk using wpAny_loadPart' hl)
      | (refine wpAny_ite_true (decide_eq_true c1) ?_; wp_walk using wpAny_loadPart' hl))
    exact ⟨_, rfl, h⟩
end
section
variable {X : Cx}
def rRep1 (K : PySem.W.Frag) : R2 := fun x y H Q => ∃ l xs, x = .ref l ∧ y = .int 1 ∧ SqT K H l xs ∧ Q (.ref l) H
theorem op_rep1 : OpR X (binaryOp .Mult) (rRep1 X.K) := by
  intro pins s σ H x y v u Q I rx ry h
  obtain ⟨l, xs, rfl, rfl, hT, q⟩ := h
  cases rx
  obtain ⟨t, rfl⟩ := ry
  obtain ⟨its, r, ⟨⟨cls, dd, data, sl⟩, ho, hc, n, hd⟩, hs⟩ := I.tuple hT
  simp only at hc hd
  subst hc hd
  refine wpAny_binaryOp_repeat_ref (T := "tuple") (U := "int") (by decide) ⟨_, ho, rfl⟩ (fun s' => typeIs_int s' 1 t) noFill_tuple_mul F.fills_int_mul F.slot_int_rmul repeat_tuple F.slot_int_index.lookup
    (call_meets F.slot_int_rmul (typeIs_int s 1 t) F.entry_int_rmul (F.args_int_rmul_2 _ _) (int_rmul_tuple 1 t l its.toArray n dd sl)
      ⟨ho, rfl, ⟨_, ho, rfl⟩, call_meets F.slot_tuple_mul ⟨_, ho, rfl⟩ F.entry_tuple_mul (F.args_tuple_mul_2 _ _) (tuple_mul1 l its.toArray n dd sl t) ⟨ho, ?_⟩⟩)
  exact ⟨.ref l, H, I, rfl, q⟩
end
section
variable {c : Cf} {e a b : Expr} {es : List Expr} {Q : D → Prop} {Δ : Dl} {pos : Pos}
theorem vo_repT {xs : List D} {k : Int} (hne : xs ≠ []) (h1 : 1 ≤ k) (h2 : k ≤ 1000) (hl : xs.length ≤ 1000) (q : Q (.tup (List.replicate k.toNat xs).flatten)) : VO c (binaryOp .Mult) (.tup xs) (.int k) Q := fun X _ _ hX H Z v u ok r1 r2 => by
  cases r2
  obtain ⟨p, vs, rfl, hp, zp, rr⟩ := r1.tup_inv ok
  by_cases e : k = 1
  · subst e
    refine ⟨rRep1 X.K, op_rep1, p, vs, rfl, rfl, .of hp, ?_⟩
    refine opost ok r1 ?_
    have e2 : (List.replicate (1 : Int).toNat xs).flatten = xs := by simp
    rw [e2] at q
    exact q
  · refine ⟨rRepT X.K, op_repT, p, k, vs, rfl, rfl, .of hp, ?_, by omega, h2, by rw [rr.length]; exact hl, fun q' hq => opost_newT ok hq (rr.rep k.toNat) q⟩
    intro z
    rw [z] at rr
    cases rr
    exact hne rfl
/-! ### the builtins are the program's own nowhere -/
structure Bl (mg : Str → Option Value) : Prop where
  isinstance : mg "isinstance" = none
  len : mg "len" = none
  int : mg "int" = none
  bool : mg "bool" = none
  str : mg "str" = none
  list : mg "list" = none
  tuple : mg "tuple" = none
  range : mg "range" = none
  all : mg "all" = none
  any : mg "any" = none
  zip : mg "zip" = none
  enumerate : mg "enumerate" = none
  min : mg "min" = none
theorem if_b {b : Bool} {A B : Prop} (h1 : b = true → A) (h2 : b = false → B) : if b = true then A else B := by
  cases b with
  | true => exact (h1 rfl : A)
  | false => exact (h2 rfl : B)
theorem if_t {b : Bool} {A B : Prop} (h : b = true) (h1 : A) : if b = true then A else B := by rw [if_pos h]; exact h1
theorem if_f {b : Bool} {A B : Prop} (h : b = false) (h1 : B) : if b = true then A else B := by rw [if_neg (by rw [h]; exact Bool.false_ne_true)]; exact h1
end
end DL
end
section
set_option Elab.async false
set_option linter.all false
set_option maxRecDepth 100000
set_option maxHeartbeats 4000000
/-! DL13: plain data without truth values: == is equality. -/
namespace DL
open PySem PySem.Spec PyProof.Rows L2
mutual
def D.nb : D → Bool
  | .non => true | .int _ => true | .str _ => true
  | .tup l => nbs l | .lst l => nbs l
  | _ => false
def nbs : List D → Bool
  | [] => true
  | d :: ds => d.nb && nbs ds
end
mutual
theorem eqv_eq : ∀ (x y : D), x.nb = true → y.nb = true → (PyData.eqv x.py y.py = true ↔ x = y)
  | .non, y, _, hy => by cases y <;> first | (simp [D.py, PyData.eqv]; done) | cases hy
  | .int i, y, _, hy => by cases y <;> first | (simp [D.py, PyData.eqv]; done) | cases hy
  | .str i, y, _, hy => by cases y <;> first | (simp [D.py, PyData.eqv]; done) | cases hy
  | .tup l, y, hx, hy => by
    cases y with
    | tup m => simp only [D.py, PyData.eqv, D.tup.injEq]; exact eqv_eqs l m hx hy
    | _ => first | (simp [D.py, PyData.eqv]; done) | cases hy
  | .lst l, y, hx, hy => by
    cases y with
    | lst m => simp only [D.py, PyData.eqv, D.lst.injEq]; exact eqv_eqs l m hx hy
    | _ => first | (simp [D.py, PyData.eqv]; done) | cases hy
theorem eqv_eqs : ∀ (xs ys : List D), nbs xs = true → nbs ys = true → (PyData.eqvAll (pys xs) (pys ys) = true ↔ xs = ys)
  | [], [], _, _ => by simp [pys, PyData.eqvAll]
  | [], _ :: _, _, _ => by simp [pys, PyData.eqvAll]
  | _ :: _, [], _, _ => by simp [pys, PyData.eqvAll]
  | x :: xs, y :: ys, hx, hy => by
    have hx' : (x.nb && nbs xs) = true := hx
    have hy' : (y.nb && nbs ys) = true := hy
    rw [Bool.and_eq_true] at hx' hy'
    simp only [pys, PyData.eqvAll, Bool.and_eq_true, List.cons.injEq]
    rw [eqv_eq x y hx'.1 hy'.1, eqv_eqs xs ys hx'.2 hy'.2]
end
structure OkD (n : Nat) (d : D) : Prop where
  pu : d.pure = true
  nb : d.nb = true
  la : d.py.canLay0 = true
  de : d.py.depth ≤ n
theorem OkD.int {n : Nat} {i : Int} : OkD n (.int i) := ⟨rfl, rfl, by simp only [D.py, PyData.canLay0], by simp only [D.py, PyData.depth]; exact Nat.zero_le _⟩
theorem OkD.non {n : Nat} : OkD n .non := ⟨rfl, rfl, by simp only [D.py, PyData.canLay0], by simp only [D.py, PyData.depth]; exact Nat.zero_le _⟩
theorem OkD.str {n : Nat} {x : Str} (h : PyData.strOk x = true) : OkD n (.str x) := ⟨rfl, rfl, by simp only [D.py, PyData.canLay0]; exact h, by simp only [D.py, PyData.depth]; exact Nat.zero_le _⟩
theorem okds {n : Nat} : ∀ {l : List D}, (∀ d ∈ l, OkD n d) → pures l = true ∧ nbs l = true ∧ PyData.canLayAll0 (pys l) = true ∧ PyData.depthAll (pys l) ≤ n
  | [], _ => ⟨rfl, rfl, by simp only [pys, PyData.canLayAll0], by simp only [pys, PyData.depthAll]; exact Nat.zero_le _⟩
  | d :: l, h => by
    obtain ⟨a, b, c, e⟩ := okds (l := l) fun d hd => h d (List.mem_cons_of_mem _ hd)
    have k := h d List.mem_cons_self
    refine ⟨?_, ?_, ?_, ?_⟩
    · show (d.pure && pures l) = true; rw [k.pu, a]; rfl
    · show (d.nb && nbs l) = true; rw [k.nb, b]; rfl
    · simp only [pys, PyData.canLayAll0, k.la, c, Bool.and_self]
    · simp only [pys, PyData.depthAll]; exact Nat.max_le.mpr ⟨k.de, e⟩
theorem OkD.tup {n : Nat} {l : List D} (h : ∀ d ∈ l, OkD n d) : OkD (n + 1) (.tup l) := by
  obtain ⟨a, b, c, e⟩ := okds h
  exact ⟨a, b, by simp only [D.py, PyData.canLay0]; exact c, by simp only [D.py, PyData.depth]; omega⟩
theorem OkD.lst {n : Nat} {l : List D} (h : ∀ d ∈ l, OkD n d) : OkD (n + 1) (.lst l) := by
  obtain ⟨a, b, c, e⟩ := okds h
  exact ⟨a, b, by simp only [D.py, PyData.canLay0]; exact c, by simp only [D.py, PyData.depth]; omega⟩
theorem OkD.mono {n m : Nat} {d : D} (h : OkD n d) (k : n ≤ m) : OkD m d := ⟨h.pu, h.nb, h.la, Nat.le_trans h.de k⟩
theorem OkD.shaped {n : Nat} {d : D} (h : OkD n d) (k : n ≤ 64) : SeqAt.shaped d.py = true := by
  show (d.py.canLay0 && decide (d.py.depth ≤ 64)) = true
  rw [h.la, decide_eq_true (Nat.le_trans h.de k)]; rfl
mutual
theorem Rp.inj_nb {K : PySem.W.Frag} {Z : Sh} : ∀ {x y : D} {v : V}, x.nb = true → y.nb = true → Rp K Z v x → Rp K Z v y → x = y
  | .non, _, _, _, hy, .non, r => by cases r; rfl
  | .int _, _, _, _, hy, .int, r => by cases r; rfl
  | .str _, _, _, _, hy, .str, r => by cases r; rfl
  | .tup l, y, _, hx, hy, .tup z r, r2 => by
    cases r2 with
    | tup z2 r2 =>
      rw [z] at z2
      have e := DL.fz_inj (Option.some.inj z2)
      cases e
      rw [Rps.inj_nb hx hy r r2]
    | lst z2 _ =>
      rw [z] at z2
      have e := DL.fz_inj (Option.some.inj z2)
      cases e
    | _ => cases hy
  | .lst l, y, _, hx, hy, .lst z r, r2 => by
    cases r2 with
    | lst z2 r2 =>
      rw [z] at z2
      have e := DL.fz_inj (Option.some.inj z2)
      cases e
      rw [Rps.inj_nb hx hy r r2]
    | tup z2 _ =>
      rw [z] at z2
      have e := DL.fz_inj (Option.some.inj z2)
      cases e
    | _ => cases hy
theorem Rps.inj_nb {K : PySem.W.Frag} {Z : Sh} : ∀ {xs ys : List D} {vs : List V}, nbs xs = true → nbs ys = true → Rps K Z vs xs → Rps K Z vs ys → xs = ys
  | [], _, _, _, _, .nil, r => by cases r; rfl
  | x :: xs, _, _, hx, hy, .cons r t, r2 => by
    cases r2 with
    | cons r2 t2 =>
      rename_i d ds
      have hx' : (x.nb && nbs xs) = true := hx
      have hy' : (d.nb && nbs ds) = true := hy
      rw [Bool.and_eq_true] at hx' hy'
      rw [Rp.inj_nb hx'.1 hy'.1 r r2, Rps.inj_nb hx'.2 hy'.2 t t2]
end
theorem zip_inj {α β : Type} : ∀ {ns : List α} {vs ws : List β}, ns.length = vs.length → ns.length = ws.length → ns.zip vs = ns.zip ws → vs = ws
  | [], [], [], _, _, _ => rfl
  | n :: ns, v :: vs, u :: ws, h1, h2, e => by
    simp only [List.zip_cons_cons, List.cons.injEq, Prod.mk.injEq] at e
    rw [e.1.2, zip_inj (by simpa using h1) (by simpa using h2) e.2]
  | [], _ :: _, _, h, _, _ => by simp at h
  | [], [], _ :: _, _, h, _ => by simp at h
  | _ :: _, [], _, h, _, _ => by simp at h
  | _ :: _, _ :: _, [], _, h, _ => by simp at h
theorem Rp.ins_inj {K : PySem.W.Frag} {Z : Sh} {C : Addr} {ns : List Str} {xs ys : List D} {v : V} (hx : nbs xs = true) (hy : nbs ys = true) (r : Rp K Z v (.ins C ns xs)) (r2 : Rp K Z v (.ins C ns ys)) : xs = ys := by
  cases r with
  | ins z e r =>
    cases r2 with
    | ins z2 e2 r2 =>
      rw [z] at z2
      have q := DL.fz_inj (Option.some.inj z2)
      injection q with _ _ q
      have q2 := zip_inj e e2 q
      subst q2
      exact Rps.inj_nb hx hy r r2
section
variable {c : Cf} {e a b : Expr} {es : List Expr} {Q : D → Prop} {Δ : Dl} {pos : Pos}
theorem vo_eqN {x y : D} (n : Nat) (hx : OkD n x) (hy : OkD n y) (hn : n ≤ 64) (q : ∀ k : Bool, (k = true ↔ x = y) → Q (.bl k)) (hh : c.hot = none := by rfl) : VO c (compareOp .Eq) x y Q :=
  vo_eqD (hh := hh) hx.pu hy.pu (hx.shaped hn) (hy.shaped hn) (q _ (eqv_eq x y hx.nb hy.nb))
theorem vo_neN {x y : D} (n : Nat) (hx : OkD n x) (hy : OkD n y) (hn : n ≤ 64) (q : ∀ k : Bool, (k = true ↔ x ≠ y) → Q (.bl k)) (hh : c.hot = none := by rfl) : VO c (compareOp .NotEq) x y Q :=
  vo_neD (hh := hh) hx.pu hy.pu (hx.shaped hn) (hy.shaped hn) (q _ (by rw [Bool.not_eq_true', ← Bool.not_eq_true, eqv_eq x y hx.nb hy.nb]))
theorem any_eqv {x : D} (hx : x.nb = true) : ∀ {l : List D}, nbs l = true → (((pys l).any fun z => PyData.eqv z x.py) = true ↔ x ∈ l)
  | [], _ => by simp [pys]
  | d :: l, h => by
    have h' : (d.nb && nbs l) = true := h
    rw [Bool.and_eq_true] at h'
    simp only [pys, List.any_cons, Bool.or_eq_true, List.mem_cons]
    rw [eqv_eq d x h'.1 hx, any_eqv hx h'.2]
    exact or_congr_left eq_comm
theorem vo_inN {x : D} {l : List D} (n : Nat) (hx : OkD n x) (hy : ∀ d ∈ l, OkD n d) (hn : n ≤ 63) (q : ∀ k : Bool, (k = true ↔ x ∈ l) → Q (.bl k)) (hh : c.hot = none := by rfl) : VO c (compareOp .In) x (.lst l) Q :=
  have hl := OkD.lst hy
  vo_inD (hh := hh) hx.pu hl.pu (hx.shaped (by omega)) (hl.shaped (by omega)) (q _ (any_eqv hx.nb hl.nb))
theorem vo_niN {x : D} {l : List D} (n : Nat) (hx : OkD n x) (hy : ∀ d ∈ l, OkD n d) (hn : n ≤ 63) (q : ∀ k : Bool, (k = true ↔ x ∉ l) → Q (.bl k)) (hh : c.hot = none := by rfl) : VO c (compareOp .NotIn) x (.lst l) Q :=
  have hl := OkD.lst hy
  vo_niD (hh := hh) hx.pu hl.pu (hx.shaped (by omega)) (hl.shaped (by omega)) (q _ (by rw [Bool.not_eq_true', ← Bool.not_eq_true, any_eqv hx.nb hl.nb]))
theorem vc_strS {x : Str} (q : Q (.str x)) : VC c (.type "str") [.str x] Q := fun X _ _ hX H Z vs ok r => by
  obtain ⟨v, rfl, r1⟩ := r.one
  cases r1
  exact ⟨_, SkE.call_str_str, x, rfl, opost ok .str q⟩
end
end DL
end
section
set_option Elab.async false
set_option linter.all false
set_option maxRecDepth 100000
set_option maxHeartbeats 4000000
/-! DL14: a, b = x, y with new lists of one's own. -/
namespace DL
open PySem PySem.Spec PyProof.Rows L2
section
variable {c : Cf} {e a b : Expr} {es : List Expr} {Q : D → Prop} {Δ : Dl} {pos : Pos} {T : Te}
theorem ws_parO (i j : Nat) {x y : Str} {px py pt : Pos} {kt k2 pt2} (hi : c.N[i]? = some x) (hj : c.N[j]? = some y) (hij : i ≠ j) (hx : c.sc.names.lookup x = some .local) (hy : c.sc.names.lookup y = some .local)
    (h : WO c a (fun d1 => WO c b (fun d2 => T.nx ((Δ.set i (some d1)).set j (some d2))) Δ) Δ)
    (hw : ∀ env : Env, env.scope = c.sc → swappedStores [.Tuple [.Name x px, .Name y py] kt pt] (.Tuple [a, b] k2 pt2) env = pure (some [x, y])) (ha : isStar a = false := by rfl) (hb : isStar b = false := by rfl) (hh : c.hot = none := by rfl) : WS c (.Assign [.Tuple [.Name x px, .Name y py] kt pt] (.Tuple [a, b] k2 pt2) pos) T Δ := fun X H0 Z0 hX σ H Z hS => by
  refine Ws.of (ps_par (hX.calm hh) (by rw [hX.N]; exact hX.nd) (by rw [hX.N]; exact hi) (by rw [hX.N]; exact hj) hij (by rw [hX.sc]; exact hx) (by rw [hX.sc]; exact hy) (pa_cons pe_we (pa_cons pe_we pa_nil (star1 hb)) (star1 ha)) (hw _ hX.sc) rfl) ?_
  refine (h X H0 Z0 hX.toCtxOk σ H Z hS).mono fun v H1 ⟨Z1, d1, s1, r1, q1⟩ => ?_
  refine (q1 X H0 Z0 hX.toCtxOk σ H1 Z1 (hS.step s1)).mono fun u H2 ⟨Z2, d2, s2, r2, q2⟩ => ?_
  exact ⟨v, u, rfl, Z2, _, s1.le.trans s2.le, (hS.setO s1 i r1).setO s2 j r2, q2⟩
end
end DL
end
section
set_option Elab.async false
set_option linter.all false
set_option maxRecDepth 100000
set_option maxHeartbeats 4000000
/-! DL15: the pen's cells, by name. -/
namespace DL
open PySem PySem.Spec PyProof.Rows L2
section
variable {c : Cf} {e a b : Expr} {es : List Expr} {Q : D → Prop} {Δ : Dl} {pos p p2 p3 : Pos} {T : Te} {q l : Addr} {ns : List Int} {pa pd pk pf : Int} {j : Nat}
theorem we_pCells (hN : c.N[0]? = some ("pen" : Str)) (hv : Vis c.sc "pen") (hi : Δ[0]? = some (some (.oK q penK (penD l ns pa pd pk pf)))) (qq : Q (.lsA l (ns.map D.int))) (hh : c.hot = none := by rfl) : WE c (.Subscript (.Name "pen" p) (.Constant (.str "cells") j p2) pos) Q Δ :=
  we_getK (hh := hh) 0 hN hv hi (we_str ⟨.inr "cells", _, rfl, rfl, qq⟩)
theorem we_pAt (hN : c.N[0]? = some ("pen" : Str)) (hv : Vis c.sc "pen") (hi : Δ[0]? = some (some (.oK q penK (penD l ns pa pd pk pf)))) (qq : Q (.int pa)) (hh : c.hot = none := by rfl) : WE c (.Subscript (.Name "pen" p) (.Constant (.str "at") j p2) pos) Q Δ :=
  we_getK (hh := hh) 0 hN hv hi (we_str ⟨.inr "at", _, rfl, rfl, qq⟩)
theorem we_pDigits (hN : c.N[0]? = some ("pen" : Str)) (hv : Vis c.sc "pen") (hi : Δ[0]? = some (some (.oK q penK (penD l ns pa pd pk pf)))) (qq : Q (.int pd)) (hh : c.hot = none := by rfl) : WE c (.Subscript (.Name "pen" p) (.Constant (.str "digits") j p2) pos) Q Δ :=
  we_getK (hh := hh) 0 hN hv hi (we_str ⟨.inr "digits", _, rfl, rfl, qq⟩)
theorem we_pCount (hN : c.N[0]? = some ("pen" : Str)) (hv : Vis c.sc "pen") (hi : Δ[0]? = some (some (.oK q penK (penD l ns pa pd pk pf)))) (qq : Q (.int pk)) (hh : c.hot = none := by rfl) : WE c (.Subscript (.Name "pen" p) (.Constant (.str "count") j p2) pos) Q Δ :=
  we_getK (hh := hh) 0 hN hv hi (we_str ⟨.inr "count", _, rfl, rfl, qq⟩)
theorem we_pFold (hN : c.N[0]? = some ("pen" : Str)) (hv : Vis c.sc "pen") (hi : Δ[0]? = some (some (.oK q penK (penD l ns pa pd pk pf)))) (qq : Q (.int pf)) (hh : c.hot = none := by rfl) : WE c (.Subscript (.Name "pen" p) (.Constant (.str "fold") j p2) pos) Q Δ :=
  we_getK (hh := hh) 0 hN hv hi (we_str ⟨.inr "fold", _, rfl, rfl, qq⟩)
theorem pen_small : penK.length < sizeLine := by rw [sizeLine_eq]; decide
theorem ws_pAt (hN : c.N[0]? = some ("pen" : Str)) (hv : Vis c.sc "pen") (hi : Δ[0]? = some (some (.oK q penK (penD l ns pa pd pk pf)))) (h : WE c e (fun y => ∃ i, y = .int i ∧ T.nx (Δ.set 0 (some (.oK q penK (penD l ns i pd pk pf))))) Δ)
    (hs : ∀ env, swapsWith e (some (.Subscript (.Name "pen" p) (.Constant (.str "at") j p3) p2)) pos.line env = pure false := by intro _; rfl) (hh : c.hot = none := by rfl) : WS c (.Assign [.Subscript (.Name "pen" p) (.Constant (.str "at") j p3) p2] e pos) T Δ :=
  ws_putK (hh := hh) 0 hN hv hi (h.mono fun y ⟨i, ey, q⟩ => by subst ey; exact we_str ⟨.inr "at", rfl, pen_small, q⟩) hs
theorem ws_pDigits (hN : c.N[0]? = some ("pen" : Str)) (hv : Vis c.sc "pen") (hi : Δ[0]? = some (some (.oK q penK (penD l ns pa pd pk pf)))) (h : WE c e (fun y => ∃ i, y = .int i ∧ T.nx (Δ.set 0 (some (.oK q penK (penD l ns pa i pk pf))))) Δ)
    (hs : ∀ env, swapsWith e (some (.Subscript (.Name "pen" p) (.Constant (.str "digits") j p3) p2)) pos.line env = pure false := by intro _; rfl) (hh : c.hot = none := by rfl) : WS c (.Assign [.Subscript (.Name "pen" p) (.Constant (.str "digits") j p3) p2] e pos) T Δ :=
  ws_putK (hh := hh) 0 hN hv hi (h.mono fun y ⟨i, ey, q⟩ => by subst ey; exact we_str ⟨.inr "digits", rfl, pen_small, q⟩) hs
theorem ws_pCount (hN : c.N[0]? = some ("pen" : Str)) (hv : Vis c.sc "pen") (hi : Δ[0]? = some (some (.oK q penK (penD l ns pa pd pk pf)))) (h : WE c e (fun y => ∃ i, y = .int i ∧ T.nx (Δ.set 0 (some (.oK q penK (penD l ns pa pd i pf))))) Δ)
    (hs : ∀ env, swapsWith e (some (.Subscript (.Name "pen" p) (.Constant (.str "count") j p3) p2)) pos.line env = pure false := by intro _; rfl) (hh : c.hot = none := by rfl) : WS c (.Assign [.Subscript (.Name "pen" p) (.Constant (.str "count") j p3) p2] e pos) T Δ :=
  ws_putK (hh := hh) 0 hN hv hi (h.mono fun y ⟨i, ey, q⟩ => by subst ey; exact we_str ⟨.inr "count", rfl, pen_small, q⟩) hs
theorem ws_pFold (hN : c.N[0]? = some ("pen" : Str)) (hv : Vis c.sc "pen") (hi : Δ[0]? = some (some (.oK q penK (penD l ns pa pd pk pf)))) (h : WE c e (fun y => ∃ i, y = .int i ∧ T.nx (Δ.set 0 (some (.oK q penK (penD l ns pa pd pk i))))) Δ)
    (hs : ∀ env, swapsWith e (some (.Subscript (.Name "pen" p) (.Constant (.str "fold") j p3) p2)) pos.line env = pure false := by intro _; rfl) (hh : c.hot = none := by rfl) : WS c (.Assign [.Subscript (.Name "pen" p) (.Constant (.str "fold") j p3) p2] e pos) T Δ :=
  ws_putK (hh := hh) 0 hN hv hi (h.mono fun y ⟨i, ey, q⟩ => by subst ey; exact we_str ⟨.inr "fold", rfl, pen_small, q⟩) hs
end
end DL
end
section
set_option Elab.async false
set_option linter.all false
set_option maxRecDepth 100000
set_option maxHeartbeats 4000000
/-! DL16: a, b = .. where a name is a cell; signs joined. -/
namespace DL
open PySem PySem.Spec PyProof.Rows L2
section
variable {c : Cf} {e a b : Expr} {es : List Expr} {Q : D → Prop} {Δ : Dl} {pos p p2 p3 : Pos} {T : Te}
theorem ws_unpackS {ts : List Expr} {kk : Nat} {tp : Pos} (js : List Nat) (h : WE c e (fun d => WG c js (.Tuple ts kk tp) d T.nx Δ) Δ) (hw : ∀ env : Env, env.scope = c.sc → swappedStores [.Tuple ts kk tp] e env = pure none) (hs : ∀ env, swapsWithSole [.Tuple ts kk tp] e pos.line env = pure false := by intro _; rfl) :
    WS c (.Assign [.Tuple ts kk tp] e pos) T Δ := fun X H0 Z0 hX σ H Z hS =>
  Ws.of (ps_asg pe_we pg_we (hs _) (hw _ hX.sc) rfl) ((h X H0 Z0 hX.toCtxOk σ H Z hS).mono fun v H1 ⟨Z1, d, s1, r1, q⟩ =>
    (q X H0 Z0 hX.toCtxOk σ H1 Z1 v (hS.step s1) r1).mono fun σ2 H2 ⟨Z2, Δ2, s2, hS2, _, q2⟩ => ⟨Z2, Δ2, s1.le.trans s2.le, hS2, q2⟩)
end
end DL
end
section
set_option Elab.async false
set_option linter.all false
set_option maxRecDepth 100000
set_option maxHeartbeats 4000000
/-! DL17: exceptions of a class of one's own over an own base: its __init__, raising. -/
namespace DL
open PySem PySem.Spec PyProof.Rows L2
/-- the base's facts: Base.__init__ is ValueError's -/
structure PeB (K : PySem.W.Frag) (mg : Str → Option Value) (bx : Str) (B : Addr) : Prop where
  g : mg bx = some (.ref B)
  ga : PySem.W.specialIn K (.ref B) "__getattribute__" = some (some (.builtin "type.__getattribute__"))
  rd : PySem.W.readsIn K B (.type "type") = true
  fi : PySem.W.findCls K (.ref B) (.type "type") "__init__" = some (.val (.builtin "ValueError.__init__"))
section
variable {X : Cx} {e : Expr} {es : List Expr} {ta : TA} {p1 p2 pos : Pos}
theorem pe_peinit {bx : Str} {B : Addr} {pl : Sem Bool} (T : PeB X.K X.mg bx B) (hg : Gl X bx) (ha : PA X (e :: es) ta)
    (hc : eval (.Call (.Attribute (.Name bx p1) "__init__" p2) (e :: es) [] pos) X.env = (do
      let ov ← eval (.Name bx p1) X.env
      standAt p2.atName
      let (f, first) ← holding [ov] (getMethod ov "__init__" pl)
      callWith pos f first (backTo pos (starEach (e :: es) X.env)) (backToKw pos (keywordEach [] X.env))) := by rfl)
    (he : starEach (e :: es) X.env = (false, eval e X.env) :: starEach es X.env := by rfl) (hpl : (backTo pos (starEach es X.env)).any (·.1) = false := by rfl) (hdb : (bx == ("__debug__" : Str)) = false := by decide) :
    PE X (.Call (.Attribute (.Name bx p1) "__init__" p2) (e :: es) [] pos) (tVeI X.K ta) := by
  refine ⟨fun pins s σ H Q I h => ?_⟩
  refine PySem.W.methodCall_KW (ld_glob I hg T.g ?_ hdb) hc
  refine PySem.W.method_cls I.kIn T.ga (PySem.W.cls_value I.kIn T.rd T.fi (by decide +kernel) ?_)
  show wpAny _ _ (callWith pos (Value.builtin "ValueError.__init__") [] (backTo pos (starEach (e :: es) X.env)) []) _ _ _
  refine PyProof.Rows.callWith_method1 (thn (ha.run pos pins _ σ H _ (I.tok _) h) fun us s1 ⟨vs, H1, I1, r1, a, C, ws, ev, hl, T, ea, q⟩ => ?_) he hpl
  subst ev
  cases r1 with
  | @cons _ u0 _ ur ra rw' =>
    obtain rfl : u0 = Value.ref a := ra
    have hlen : ur.length ≤ sizeLine := by
      rw [← Paired.length rw', sizeLine_eq]
      omega
    exact oinit_ok T I1 ea hlen fun s' J => ⟨.non, H1, J, rfl, q⟩
end
theorem zip_rev {α β : Type} : ∀ {ns : List α} {vs : List β}, ns.length = vs.length → (ns.zip vs).reverse = ns.reverse.zip vs.reverse
  | [], [], _ => rfl
  | n :: ns, v :: vs, h => by
    have h' : ns.length = vs.length := by simpa using h
    rw [List.zip_cons_cons, List.reverse_cons, zip_rev h', List.reverse_cons, List.reverse_cons, List.zip_append (by rw [List.length_reverse, List.length_reverse]; exact h')]
    rfl
  | [], _ :: _, h => by simp at h
  | _ :: _, [], h => by simp at h
theorem Rps.rev {K : PySem.W.Frag} {Z : Sh} : ∀ {vs : List V} {ds : List D}, Rps K Z vs ds → Rps K Z vs.reverse ds.reverse
  | _, _, .nil => .nil
  | _, _, .cons r t => by
    rw [List.reverse_cons, List.reverse_cons]
    exact (Rps.rev t).append (.cons r .nil)
/-- what the __init__ of an own exception class keeps: its arguments under these names -/
def spX (C : Addr) (ns : List Str) : Sp := fun vs H Q _ => ∃ a ws, vs = .ref a :: ws ∧ ws.length = ns.length ∧ H a = some (exo a C none) ∧ ∀ d, H d = none → d ≠ a → Q .non (upd (upd H d (exd d (ns.zip ws).reverse)) a (exo a C (some d)))
/-- X(..): what is known of the class -/
structure XMk (P : Program) (w : World) (K : PySem.W.Frag) (mg : Str → Option Value) (base : Heap) (x : Str) (C : Addr) (ns : List Str) : Prop where
  ex : ∃ fI fd ps, OexC K C ∧ mg x = some (.ref C) ∧ PySem.W.findIn K (.ref C) "__init__" = some (some (.ref fI)) ∧ PySem.W.typeIn K (.ref fI) = some (.type "function") ∧ Binds K fd ps [] ∧ FnOk P w K mg base CX0 2 fI fd ps (spX C ns)
section
variable {c : Cf} {e : Expr} {es : List Expr} {Δ : Dl} {p pos pos2 : Pos} {T : Te}
theorem ws_raise {x : Str} {C : Addr} {ns : List Str} (M : XMk c.P c.w c.K c.mg c.base x C ns) (hj : 3 ≤ c.k) (hg : Glo c x) (h : WA c (e :: es) (fun ds => ds.length = ns.length ∧ c.W ⟨C, ns.reverse, ds.reverse⟩) Δ) (hs : (e :: es).any isStar = false := by rfl) (hn : ns.length ≤ 1000 := by decide)
    (hdb : (x == ("__debug__" : Str)) = false := by decide) (hh : c.hot = none := by rfl) : WS c (.Raise (some (.Call (.Name x p) (e :: es) [] pos)) none pos2) T Δ := fun X H0 Z0 hX σ H Z hS => by
  obtain ⟨fI, fd, ps, O, mgx, iC, tI, hb, F⟩ := M.ex
  have F' : FnOk X.prog X.w X.K X.mg X.base CX0 2 fI fd ps (spX C ns) := by rw [hX.P, hX.w, hX.K, hX.mg, hX.base]; exact F
  have he : starEach (e :: es) X.env = (false, eval e X.env) :: starEach es X.env := star1 (by rw [List.any_cons, Bool.or_eq_false_iff] at hs; exact hs.1)
  have hpl : (backTo pos (starEach es X.env)).any (·.1) = false := star0 (by rw [List.any_cons, Bool.or_eq_false_iff] at hs; exact hs.2)
  refine Ws.of (ps_raise (hX.calm hh) hX.tk (pmk_oex (by rw [hX.K]; exact O) (by rw [hX.K]; exact iC) (by rw [hX.K]; exact tI) F' ((hX.room hh).mono hj) (by rw [hX.K]; exact hb) .nil pass0 (hX.gl hg) (by rw [hX.mg]; exact mgx) pa_we hdb he hpl)) ?_
  refine (h X H0 Z0 hX.toCtxOk σ H Z hS).mono fun vs H1 ⟨Z1, ds, s1, r1, hl, hw⟩ => ⟨by rw [r1.length, hl]; exact hn, fun a ha => ?_⟩
  refine ⟨a, vs, by rw [List.append_nil], by rw [r1.length, hl], upd_same, fun d hd hda => ⟨rfl, d, (ns.zip vs).reverse, upd_same, ?_, ?_, ?_⟩⟩
  · rw [upd_ne hda, upd_same]
  · rw [upd_ne hda] at hd; exact hd
  · have hd1 : H1 d = none := by rw [upd_ne hda] at hd; exact hd
    have eH : upd (del (upd (upd (upd H1 a (exo a C none)) d (exd d (ns.zip vs).reverse)) a (exo a C (some d))) a) d (.xd (ns.zip vs).reverse) = upd H1 d (.xd (ns.zip vs).reverse) := by
      funext b
      by_cases hb1 : b = d
      · rw [hb1, upd_same, upd_same]
      · rw [upd_ne hb1, upd_ne hb1]
        by_cases hb2 : b = a
        · rw [hb2, del_same, ha]
        · rw [del_ne hb2, upd_ne hb2, upd_ne hb1, upd_ne hb2]
    rw [eH]
    have el : ns.length = vs.length := by rw [r1.length, hl]
    have st : Stp H1 Z1 (upd H1 d (.xd (ns.zip vs).reverse)) (shr Z1 d (fz (.xd (ns.zip vs).reverse))) := .newS s1.ok hd1 rfl
    refine ⟨_, ⟨C, ns.reverse, ds.reverse⟩, (hS.stp.trans s1).trans st, ⟨rfl, d, vs.reverse, rfl, ?_, by rw [List.length_reverse, List.length_reverse]; exact el, (r1.le st.le).rev⟩, hw⟩
    rw [shr_same, zip_rev el]
end
end DL
end
section
set_option Elab.async false
set_option linter.all false
set_option maxRecDepth 100000
set_option maxHeartbeats 4000000
/-! DL18: isinstance(e, X) for a caught exception that has fields. -/
namespace DL
open PySem PySem.W
section
variable {prog : Program} {w : World} {A : Around} {E : Value → Shared → Prop} {s : Shared} {K : Frag} {x D : Addr} {ox : Obj} {od : Option Obj}
theorem obj_data {C : Addr} {name : Str} {a g : Value} (hc : (clsIn K C).isSome = true) (ha : findIn K (.ref C) name = some (some a)) (hg : specialIn K a "__get__" = some (some g)) (ht : takesIn K a = some true) : findObj K C od name = some (.bind g a) := by
  obtain ⟨cd, hc⟩ := Option.isSome_iff_exists.mp hc
  unfold findObj
  rw [hc, Option.bind_some, ha, Option.bind_some]
  simp [hg, ht]
theorem exc_class {Q : Option Value → Shared → Prop} (T : L2.ExcC K D) (X : K.In s.heap) (I : InstAt s.heap x ox D od) (h : Q (some (.ref D)) { s with toks := s.toks + 1 }) : wpAny (model prog w) A (getAttr? (.ref x) "__class__") Q E s := by
  have fo : findObj K D od "__class__" = some (.bind (.builtin "getset_descriptor.__get__") (.builtin "object.__class__")) := obj_data (by obtain ⟨cd, hc, _⟩ := any_some T.hd; rw [hc]; rfl) T.ha T.hn T.ht
  obtain ⟨hp, g, d, t, os⟩ := s
  have Lt := I.type (M := model prog w)
  have Lf := looks_find (M := model prog w) X I fo
  have kin : Looks (model prog w) hp (isInstance (.ref x) (.type "BaseException")) true := Lt.andThen (looks_subIn X T.hs)
  have ne : (Value.builtin "BaseException.__getattribute__" == Value.builtin "object.__getattribute__") = false := by decide +kernel
  unfold getAttr? getAttrBy? getAttrBy
  refine wpAny_bind (wpAny_mkText (wpAny_bind (wpAny_attempt (wpAny_holding (wpAny_bind (Lt.at (wpAny_bind ((looks_findIn (M := model prog w) X T.hg).at ?_))))))))
  show wpAny _ _ (if (onTheHeap (Value.ref D) && Value.builtin "BaseException.__getattribute__" == Value.builtin "object.__getattribute__") = true then _ else _) _ _ _
  rw [ne, Bool.and_false, if_neg Bool.false_ne_true]
  unfold getAttrByItsOwn hookBefore
  refine wpAny_bind ?_
  rw [if_pos (show onTheHeap (Value.ref D) = true from rfl)]
  refine (looks_findIn (M := model prog w) X T.hk).at ?_
  refine wpAny_bind (wpAny_attempt (wpAny_holding ?_))
  unfold callGetattribute
  rw [show (false && onTheHeap (Value.builtin "BaseException.__getattribute__")) = false from rfl, if_neg Bool.false_ne_true]
  unfold boundAndCalled
  rw [PySem.F.excAttr_ValueError.ga.bind (.ref x)]
  refine wpAny_bind (wpAny_pure ?_)
  show wpAny _ _ (call (.builtin "BaseException.__getattribute__") [.ref x, .str "__class__" t]) _ _ _
  refine wpAny_call (codeAny_call_builtin PySem.F.excAttr_ValueError.ga.plain PySem.F.entry_bexc_ga ?_)
  refine @check_slot (model prog w) _ _ ⟨hp, g, d, t + 1, os⟩ "BaseException.__getattribute__" "BaseException" "__getattribute__" (.ref x) [.str "__class__" t] [] _ (by decide +kernel) (by decide +kernel) kin (PySem.F.args_bexc_ga (.ref x) (.str "__class__" t)) ?_
  unfold Builtin.«object.__getattribute__»
  refine wpAny_bind (wpAny_of_eq (a := ((Value.ref x : Value), [Value.str "__class__" t])) (by first | rfl | (simp only [slotArgs]; rfl)) ?_)
  refine wpAny_bind (wpAny_pure (wpAny_bind (Lt.at (wpAny_bind (Lf.at ?_)))))
  show wpAny _ _ (holding [Value.builtin "object.__class__"] (call (.builtin "getset_descriptor.__get__") [.builtin "object.__class__", .ref x, .ref D]) >>= ret) _ _ _
  refine wpAny_bind (wpAny_holding (wpAny_call (class_get (s := ⟨hp, g, d, t + 1, os⟩) (ox := ox) (od := od) X I T.hm ?_)))
  refine wpAny_pure ?_
  show wpAny _ _ (handedOut (.ref D)) _ _ _
  rw [handedOut_of (v := .ref D) rfl]
  first
    | exact wpAny_pure (wpAny_pure h)
    | exact wpAny_pure h
    | exact wpAny_pure (wpAny_bind (wpAny_pure (wpAny_pure h)))
theorem exc_kit (T : L2.ExcC K D) : KitX K (.ref x) (.ref D) (fun h => ∃ ox od, InstAt h x ox D od) where
  ty := fun _ _ _ ⟨_, _, I⟩ => I.type
  it := fun _ _ X _ => by
    obtain ⟨cd, hc, _⟩ := any_some T.hd
    unfold clsIn at hc
    split at hc
    · rename_i ho
      intro A' Q' E' s' k q
      unfold isType loadHead
      exact wpAny_bind (wpAny_loadPart (k _ _ (X _ _ ho)) (wpAny_pure q))
    · cases hc
  ne := fun h tp dd its n sl X htp => by
    obtain ⟨cd, hc, _⟩ := any_some T.hd
    refine Bool.eq_false_iff.mpr fun q => ?_
    have e : D = tp := Value.ref.inj (beq_iff_eq.mp q)
    subst e
    unfold clsIn at hc
    split at hc
    · rename_i ho
      cases (X _ _ ho).symm.trans htp
    · cases hc
  ca := fun X ⟨_, _, I⟩ k => exc_class T X I k
end
end DL
namespace DL
open PySem PySem.Spec PyProof.Rows L2
/-- isinstance(e, c), e the exception that the suite holds, with a dict -/
theorem call_isD {X : Cx} {a C dd : Addr} {oe : Obj} {pn : List (Addr × Obj)} (T : ExcC X.K C) (hz : Zc (.ref C) (some dd) oe) (hf : ∃ vs, oe.data = .fields vs) :
    CallR (X.suite a ((a, oe) :: pn)) (.builtin "isinstance") (fun xs H Q => ∃ (c : V) (cv : Value) (b : Bool) (fs : List (Str × V)), xs = [.ref a, c] ∧ H dd = some (.xd fs) ∧ (∀ u, RelV c u → u = cv) ∧ PySem.W.kitOne X.K (.ref C) cv = some b ∧ Q (.bl b) H) := by
  intro pins s σ H xs us Q I r h
  obtain ⟨c, cv, b, fs, rfl, hd, hcv, e, q⟩ := h
  cases r with
  | cons rx rr =>
    cases rr with
    | cons rt rr =>
      cases rr
      cases rx
      have ec := hcv _ rt
      subst ec
      obtain ⟨hget, _⟩ := I.pin (a, oe) (List.mem_append.mpr (.inl List.mem_cons_self))
      obtain ⟨vs, hv⟩ := hf
      have hx : ObjOk X.prog X.w H s.heap dd (.xd fs) := I.hok dd _ hd
      obtain ⟨mA, hns, hr⟩ := hx
      obtain ⟨od, ho, hl⟩ := lookIn_ns hns
      have J : PySem.W.InstAt s.heap a oe C (some od) := ⟨hget, hz.1, by unfold PySem.W.notCls; rw [hv] <;> rfl, by rw [hz.2]; exact ho⟩
      exact PySem.W.kia_one (exc_kit T) I.kIn ⟨_, _, J⟩ e (fun z => nomatch z) fun tk => ⟨.bl b, H, I.kept (t' := tk) fun _ _ z => z, rfl, q⟩
end DL
end
section
set_option Elab.async false
set_option linter.all false
set_option maxRecDepth 100000
set_option maxHeartbeats 4000000
/-! DL19: an except suite over data; a def that calls what it got and tells of the exception. -/
namespace DL
open PySem PySem.Spec PyProof.Rows L2
section
variable {c : Cf} {e a b : Expr} {es : List Expr} {Q : D → Prop} {Δ : Dl} {pos p p2 p3 : Pos} {T : Te}
theorem vc_isiE {x C dd C' : Addr} {ns : List Str} {l : List D} {k : Bool} (hc : c.hot = some (x, C, dd)) (T : ExcC c.K C) (hk : PySem.W.kitOne c.K (.ref C) (.ref C') = some k) (q : Q (.bl k)) : VC c (.builtin "isinstance") [.xc x C dd ns l, .adr C'] Q := fun X H0 Z0 hX H Z vs ok r => by
  obtain ⟨v, u, rfl, r1, r2⟩ := r.two
  cases r2
  obtain ⟨X0, oe, pn, rfl, hz, hf⟩ := hX.su x C dd hc
  have hK : X0.K = c.K := hX.K
  cases r1 with
  | xc z el rr =>
    obtain ⟨o, ho, eo⟩ := ok _ _ z
    have eo : o = _ := eo
    subst eo
    exact ⟨_, call_isD (X := X0) (by rw [hK]; exact T) hz hf, _, .ref C', k, _, rfl, ho, fun u hu => hu, by rw [hK]; exact hk, opost ok .bl q⟩
theorem we_xfld {x C dd : Addr} {f : Str} (hc : c.hot = some (x, C, dd)) (T : XfC c.K C) (hno : PySem.W.findIn c.K (.ref C) f = some none) (h : WE c e (fun d => ∃ ns l y, d = .xc x C dd ns l ∧ (ns.zip l).lookup f = some y ∧ Q y) Δ) (hb : ∀ env w, attributeBase e f env w = w := by intro _ _; rfl) : WE c (.Attribute e f pos) Q Δ := fun X H0 Z0 hX σ H Z hS => by
  obtain ⟨X0, oe, pn, rfl, hz, hf⟩ := hX.su x C dd hc
  have hK : X0.K = c.K := hX.K
  refine We.of (pe_xf (X := X0) (by rw [hK]; exact T) (by rw [hK]; exact hno) hz hf pe_we (hb _ _)) ?_
  refine (h _ H0 Z0 hX σ H Z hS).mono fun v H1 ⟨Z1, d, s1, r1, ns, l, y, ed, hl, q⟩ => ?_
  subst ed
  cases r1 with
  | xc z el rr =>
    obtain ⟨o, ho, eo⟩ := s1.ok _ _ z
    have eo : o = _ := eo
    subst eo
    obtain ⟨w, hw, rw'⟩ := rr.lookup hl
    exact ⟨rfl, rfl, dd, _, w, rfl, ho, hw, Z1, y, s1, rw', q⟩
end
/-- what the def makes of what it got -/
def TTd (K : PySem.W.Frag) (okX : XD → Prop) (told : XD → D) (none_ : D) : (XK → Hp → VK → Prop) → Hp → VK → Prop := fun tl H Q => ∃ (Z : Sh) (W0 : XD → Prop) (Nm : Prop), OkZ H Z ∧
  (∀ R : VK, (∀ v H' Z', Stp H Z H' Z' → Nm → R v H') → tl (fun cls d H' => ∃ Z' x, Stp H Z H' Z' ∧ RX K Z' H' cls d x ∧ W0 x) H R) ∧
  (Nm → ∀ v H' Z', Stp H Z H' Z' → Rr K H H' Z' v none_ → Q v H') ∧ ∀ x, W0 x → okX x ∧ ∀ v H' Z', Stp H Z H' Z' → Rr K H H' Z' v (told x) → Q v H'
section
variable {X : Cx}
theorem caught_gives (gd : X.A.guards = some []) (un : X.A.units + 200 < cLine) {Ng ps : List Str} {x a e n q : Str} {sg : Scope} {g CS : Addr} {cdg : Value} {okX : XD → Prop} {told : XD → D} {s1 : Str} {j k0 : Nat} {b₀ : Stmt} {suite : List Stmt} {p1 p2 p3 p4 p5 p6 p7 p8 p9 : Pos} (Sg : FnScope Ng ps sg)
    (h0 : ∀ f : Addr, (L2.start Ng [V.ref f])[0]? = some (some (V.ref f))) (hn : Ng[1]? = some n) (hln : sg.names.lookup n = some .local) (hge : sg.names.lookup e = some .globalImplicit) (hme : X.mg e = some (.ref CS)) (hde : (e == ("__debug__" : Str)) = false)
    (hex : ∀ y, okX y → PySem.W.exmOne X.K (.ref y.C) (.ref CS) = some true)
    (hsu : ∀ (y : XD) (w dd : Addr), okX y → WB ⟨X.prog, X.w, X.K, X.mg, X.base, Ng, sg, 0, fun _ => False, fun _ => true, some (w, y.C, dd), some ⟨[], none⟩⟩ (b₀ :: suite) ⟨fun _ => False, fun d _ => d = told y, fun _ => False, fun _ => False⟩ ((List.replicate Ng.length none).set 1 (some (.xc w y.C dd y.ns y.ds)))) :
    LamX.GivesTo X Ng x sg g cdg [.Try [.Expr (.Call (.Name a p1) [] [] p2) p3] [.ExceptHandler (some (.Name e p4)) (some n) (b₀ :: suite) p5] [] [] p6, .Return (some (.Tuple [.Constant (.str s1) j p7] k0 p8)) p9] a q (TTd X.K okX told (.tup [.str s1])) := by
  intro f c' s H Q tl act hc ⟨Z, W0, Nm, ok, ht, hnm, hx⟩
  refine ⟨_, pss_cons (ps_try_as (X := (cxOf C8.CX0 X.prog X.w X.K X.mg X.base Ng x sg g cdg X.A X.stack s H C8.E0).nox) (i := 1) (c := .ref CS)
      (tb := fun W D σ H' => ∃ Ech : XK, (∀ cls d σ' H', Ech cls d H' → W cls d σ' H') ∧ σ[0]? = some (some (.ref f)) ∧ H' c' = some (LamX.CodeO c' q) ∧ tl Ech H' (fun _ H2 => D.nx σ H2))
      (ts := fun w cls d D σ H' => ∀ oe pn, Zc cls d oe → (∃ vs, oe.data = .fields vs) → Wss ((cxOf C8.CX0 X.prog X.w X.K X.mg X.base Ng x sg g cdg X.A X.stack s H C8.E0).nox.suite w ((w, oe) :: pn)) (b₀ :: suite) D σ H')
      rfl rfl Sg.nd hn hln ⟨hge, hde, .inl hme⟩ LamX.takes0 (fun W pn xe tk _ => ?_) (fun w oe cls d pn hz hf => ⟨fun pins s' σ H' D I h => h oe pn hz hf pins s' I⟩)) (pss_one (ps_ret (pe_tup (pa_cons pe_str pa_nil)))), ?_⟩
  · refine ⟨fun pins s' σ H' D I h' => ?_⟩
    obtain ⟨Ech, hW, h1, h2, h3⟩ := h'
    have hp := pss_one (ps_expr (pos := p3) (act W pn xe Ech p1 p2 tk hW))
    exact hp.run pins s' σ H' D I ⟨h1, h2, h3⟩
  · refine ⟨fun cls d H' => ∃ Z' x, Stp H Z H' Z' ∧ RX X.K Z' H' cls d x ∧ W0 x, fun cls d σ' H' ⟨Z', y, st, rx, hw⟩ => ?_, h0 f, hc, ht _ fun v H' Z' st nm => ?_⟩
    · obtain ⟨okx, hq⟩ := hx y hw
      obtain ⟨rfl, dd, vs, rfl, zd, el, rr⟩ := rx
      refine ⟨true, hex y okx, fun _ w hw0 => ?_, fun z => nomatch z⟩
      intro oe pn hz hf pins s' I
      have hlen := I.len
      have hlen2 : (σ'.set 1 (some (V.ref w))).length = Ng.length := hlen
      have h1 : 1 < Ng.length := (List.getElem?_eq_some_iff.mp hn).1
      have hS : Slots X.K H Z (σ'.set 1 (some (V.ref w))) H' Z' ((List.replicate Ng.length none).set 1 (some (.xc w y.C dd y.ns y.ds))) := by
        refine ⟨ok, st, by rw [hlen2]; simp, fun i d' q' => ?_, fun i i' d1 d2 l q1 q2 o1 o2 _ _ => ?_⟩
        · rcases setAt q' with ⟨rfl, e2, _⟩ | ⟨_, q'⟩
          · cases e2
            exact ⟨.ref w, by rw [List.getElem?_set_self (by rw [List.length_set] at hlen2; rw [hlen2]; exact h1)], .inl (.xc zd el rr)⟩
          · rw [List.getElem?_replicate] at q'
            split at q' <;> cases q'
        · rcases setAt q1 with ⟨_, e2, _⟩ | ⟨_, q1⟩
          · cases e2; cases o1
          · rw [List.getElem?_replicate] at q1
            split at q1 <;> cases q1
      have hX : CtxS ⟨X.prog, X.w, X.K, X.mg, X.base, Ng, sg, 0, fun _ => False, fun _ => true, some (w, y.C, dd), some ⟨[], none⟩⟩ H Z ((cxOf C8.CX0 X.prog X.w X.K X.mg X.base Ng x sg g cdg X.A X.stack s H C8.E0).nox.suite w ((w, oe) :: pn)) :=
        { P := rfl, w := rfl, K := rfl, mg := rfl, base := rfl, N := rfl, sc := rfl, calm := fun z => (nomatch z),
          su := fun a C d z => by cases z; exact ⟨_, oe, pn, rfl, hz, hf⟩
          lm := fun L z => by cases z; exact ⟨⟨gd, by show X.A.units + 3 + 100 < cLine; omega⟩, .nil, fun _ _ _ z => (nomatch z)⟩, room := fun z => (nomatch z), nd := Sg.nd, fn := fun _ _ _ => .inl rfl,
          tk := LamX.takes0.imp fun cls d σ H' ⟨Z', y, st', rx, hw⟩ => hw, own := PassesOwn.never }
      refine thn (hsu y w dd okx _ H Z hX _ H' Z' hS pins s' I) fun fl s2 qq => sp_mono qq (fun σ2 H2 ⟨_, _, _, _, z⟩ => z.elim) (fun v H2 ⟨Z2, d, σ2, Δ2, hS2, r2, ed⟩ => ?_) (fun _ _ ⟨_, _, _, _, z⟩ => z.elim) fun _ _ ⟨_, _, _, _, z⟩ => z.elim
      subst ed
      exact hq v H2 Z2 hS2.stp r2
    · refine ⟨by show 1 ≤ sizeLine; decide, fun p hp => ?_⟩
      have s2 : Stp H' Z' (upd H' p (.tup [.str s1])) (shr Z' p (fz (.tup [.str s1]))) := .newS st.ok hp rfl
      exact hnm nm _ _ _ (st.trans s2) (.inl (.tup shr_same (.cons .str .nil)))
end
end DL
end
section
set_option Elab.async false
set_option linter.all false
set_option maxRecDepth 100000
set_option maxHeartbeats 4000000
/-! DL20: a lambda handed to a def that calls it; defs that make lambdas. -/
namespace DL
open PySem PySem.Spec PyProof.Rows L2
/-- the code at b stands in a table of the name q -/
def InTab (T : List (Addr × Str)) (H : Hp) (b : Addr) (q : Str) : Prop := ∃ P ps pos, (P, q) ∈ T ∧ H P = some (.tbl ps) ∧ codeAmong pos ps.toList = some (.ref b)
theorem nocode {b : Addr} {q : Str} (ps : Array Value) : LamX.CodeO b q ≠ .tbl ps := fun z => nomatch (show HO.ext _ = HO.tbl _ from z)
open Classical in
theorem tab_grow {Z : Sh} {H H1 : Hp} {T : List (Addr × Str)} (ok : OkZ H Z) (hne : T ≠ []) (t0 : TabsZ T Z H) (nt : NoT Z) (e : LamX.ExtN H H1) (t1 : LamX.Tabs T H1) : ∃ Z1, Stp H Z H1 Z1 := by
  have t := t0 hne
  let Z1 : Sh := fun b => match Z b with
    | some φ => some φ
    | none => if h : ∃ q, InTab T H1 b q then some (fz (LamX.CodeO b (choose h))) else none
  have old : ∀ {b φ}, Z b = some φ → Z1 b = some φ := fun {b φ} z => by show (match Z b with | some φ => _ | none => _) = _; rw [z]
  have new : ∀ {b}, Z b = none → Z1 b = if h : ∃ q, InTab T H1 b q then some (fz (LamX.CodeO b (choose h))) else none := fun {b} z => by show (match Z b with | some φ => _ | none => _) = _; rw [z]
  have le : Le Z Z1 := fun a φ z => old z
  have code : ∀ {b q}, InTab T H1 b q → H1 b = some (LamX.CodeO b q) := fun {b q} ⟨P, ps, pos, hm, hp, hc⟩ => by
    obtain ⟨ps1, g1, _, g3⟩ := t1 _ hm
    have g1 : H1 P = some (.tbl ps1) := g1
    rw [hp] at g1; cases g1
    obtain ⟨c, ec, hcc⟩ := g3 pos _ hc
    cases ec; exact hcc
  have new2 : ∀ {b q}, Z b = none → InTab T H1 b q → Z1 b = some (fz (LamX.CodeO b q)) := fun {b q} z i => by
    rw [new z, dif_pos ⟨q, i⟩]
    have k := (code (choose_spec ⟨q, i⟩)).symm.trans (code i)
    rw [Option.some.inj k]
  have nt1 : NoT Z1 := fun a φ z => by
    cases h : Z a with
    | some ψ => rw [old h] at z; cases z; exact nt a _ h
    | none =>
      rw [new h] at z
      split at z
      · cases z; exact .inr (.fz nocode)
      · cases z
  have tp1 : ∀ a φ vs, Z1 a = some φ → H1 a = some (.tup vs) → φ = fz (.tup vs) := fun a φ vs z hv => by
    cases h : Z a with
    | some ψ =>
      rw [old h] at z; cases z
      obtain ⟨o, ho, hφ⟩ := ok a φ h
      rcases nt a φ h with ⟨q', rfl⟩ | nn
      · obtain ⟨ps1, g1, _⟩ := t1 _ (t.2 a q' h)
        have g1 : H1 a = some (.tbl ps1) := g1
        rw [hv] at g1; cases g1
      · have k := e a o ho (fun ps z => nn.1 ps (by rw [← z]; exact hφ))
        rw [hv] at k; cases k
        exact nn.2.2 vs hφ
    | none =>
      rw [new h] at z
      split at z
      · rename_i hc
        cases z
        have k := code (choose_spec hc)
        rw [hv] at k
        exact (nomatch (show HO.tup vs = HO.ext _ from Option.some.inj k))
      · cases z
  have kp1 : ∀ a sp, Z1 a = some (keptP sp) → KpOk H1 Z1 a sp := fun a sp z => by
    cases h : Z a with
    | some ψ =>
      rw [old h] at z; cases z
      exact (ok.kp a sp h).le le fun o ho n => e a o ho n
    | none =>
      rw [new h] at z
      split at z
      · exact absurd (Option.some.inj z) (Nk.fz sp)
      · cases z
  refine ⟨Z1, le, ⟨fun a φ z => ?_, tp1, kp1⟩, fun a o ho z n => ⟨e a o ho n.1, ?_⟩, fun P' q' t' => ?_, fun P' q' z => ?_, fun a o ho n => ⟨o, e a o ho n, n⟩⟩
  · cases h : Z a with
    | some ψ =>
      rw [old h] at z; cases z
      obtain ⟨o, ho, hφ⟩ := ok a φ h
      rcases nt a φ h with ⟨q', rfl⟩ | nn
      · obtain ⟨ps1, g1, _⟩ := t1 _ (t.2 a q' h)
        exact ⟨_, g1, tabM_tbl _⟩
      · exact ⟨o, e a o ho (fun ps z => nn.1 ps (by rw [← z]; exact hφ)), hφ⟩
    | none =>
      rw [new h] at z
      split at z
      · rename_i hc
        cases z
        exact ⟨_, code (choose_spec hc), rfl⟩
      · cases z
  · rw [new z, dif_neg]
    intro ⟨q, i⟩
    have k := (e a o ho n.1).symm.trans (code i)
    exact n.2.1 _ _ (Option.some.inj k)
  · obtain ⟨_, z', ps', h', _⟩ := t'
    have hm := t.2 _ _ z'
    obtain ⟨ps1, g1, g2, g3⟩ := t1 _ hm
    have g1 : H1 P' = some (.tbl ps1) := g1
    refine ⟨nt1, le _ _ z', ps1, g1, g2, fun pos cv hc => ?_⟩
    obtain ⟨c, rfl, hcc⟩ := g3 pos cv hc
    have hcc : H1 c = some (LamX.CodeO c q') := hcc
    refine ⟨c, rfl, ?_⟩
    cases h : Z c with
    | none => exact new2 h ⟨P', ps1, pos, hm, g1, hc⟩
    | some ψ =>
      rw [old h]
      obtain ⟨o, ho, hψ⟩ := ok c ψ h
      rcases nt c ψ h with ⟨q2, rfl⟩ | nn
      · obtain ⟨ps2, k1, _⟩ := t1 _ (t.2 c q2 h)
        have k1 : H1 c = some (.tbl ps2) := k1
        rw [k1] at hcc
        exact absurd (Option.some.inj hcc).symm (nocode _)
      · have ht : ∀ ps, o ≠ .tbl ps := fun ps z => nn.1 ps (by rw [← z]; exact hψ)
        have k := (e c o ho ht).symm.trans hcc
        have k2 : o = LamX.CodeO c q' := Option.some.inj k
        rw [nn.2.1 c q' (by rw [← k2]; exact hψ)]
  · cases h : Z P' with
    | some ψ => rw [old h] at z; cases z; rfl
    | none =>
      rw [new h] at z
      split at z
      · have k := Option.some.inj z
        have k2 : tabM q' (.tbl #[]) := tabM_tbl #[]
        rw [← k] at k2
        exact absurd (show HO.tbl #[] = _ from k2).symm (nocode #[])
      · cases z
theorem TabsZ.tabs {T : List (Addr × Str)} {Z : Sh} {H : Hp} (t : TabsZ T Z H) (ok : OkZ H Z) : LamX.Tabs T H := fun p hp => by
  obtain ⟨_, _, ps, h1, h2, h3⟩ := (t (fun e => by rw [e] at hp; cases hp)).1 p hp
  refine ⟨ps, h1, h2, fun pos cv hc => ?_⟩
  obtain ⟨c, e1, z⟩ := h3 pos cv hc
  obtain ⟨o, ho, eo⟩ := ok _ _ z
  have eo : o = _ := eo
  exact ⟨c, e1, by rw [ho, eo]⟩

/-! ### the def that calls what it got -/
structure Caught (P : Program) (w : World) (K : PySem.W.Frag) (mg : Str → Option Value) (base : Heap) (x : Str) (okX : XD → Prop) (told : XD → D) (none_ : D) : Prop where
  ex : ∃ (g : Addr) (a : Str) (pg : Arguments) (bg : List Stmt) (sg : Scope) (kV doc pm cdv ct oc : Value) (an od : Option Addr) (osl : Array (Option Value)) (Ng : List Str),
    mg x = some (.ref g) ∧ PySem.W.keepIn K (.ref g) = true ∧ K.lookup g = some ⟨oc, od, .func (PySem.W.fnOf x x pg bg sg .none kV doc pm an cdv ct), osl⟩ ∧ PySem.W.codeIn K cdv x = true ∧ L2.Binds K (PySem.W.fnOf x x pg bg sg .none kV doc pm an cdv ct) [a] [] ∧
    FnScope Ng [a] sg ∧ Ng[0]? = some a ∧ Vis sg a ∧ ((a == ("__debug__" : Str)) = false ∧ (a == ("__classdict__" : Str)) = false) ∧
    ∀ (X : Cx) (q : Str), X.prog = P → X.w = w → X.K = K → X.mg = mg → X.base = base → X.A.guards = some [] → X.A.units + 200 < cLine → LamX.GivesTo X Ng x sg g cdv bg a q (TTd K okX told none_)
def lamC (c : Cf) (sc : Scope) (k : Nat) (W : XD → Prop) : Cf := { c with sc := sc, k := k, W := W, st := fun _ => false, hot := none, lam := none }
def noOwn (Δ : Dl) : Dl := Δ.map fun o => match o with
  | none => none
  | some d => if d.own then none else some d
theorem noOwn_get {Δ : Dl} {i : Nat} {d : D} (h : (noOwn Δ)[i]? = some (some d)) : Δ[i]? = some (some d) ∧ d.own = false := by
  unfold noOwn at h
  rw [List.getElem?_map] at h
  cases q : Δ[i]? with
  | none => rw [q] at h; cases h
  | some o =>
    rw [q] at h
    cases o with
    | none => cases h
    | some d' =>
      have h : (some (if d'.own then none else some d') : Option (Option D)) = some (some d) := h
      cases e : d'.own with
      | true => rw [e] at h; cases h
      | false => rw [e] at h; cases h; exact ⟨rfl, e⟩
theorem Slots.lamb {K : PySem.W.Frag} {H0 H H1 : Hp} {Z0 Z Z1 : Sh} {σ : L2.St} {Δ : Dl} (h : Slots K H0 Z0 σ H Z Δ) (s : Stp H Z H1 Z1) : Slots K H1 Z1 σ H1 Z1 (noOwn Δ) := by
  refine ⟨s.ok, .refl s.ok, by unfold noOwn; rw [List.length_map]; exact h.len, fun i d e => ?_, fun i j d d' l e1 e2 o1 => ?_⟩
  · obtain ⟨e, ho⟩ := noOwn_get e
    obtain ⟨v, e1, r⟩ := h.get e ho
    exact ⟨v, e1, .inl (r.le s.le)⟩
  · obtain ⟨_, ho⟩ := noOwn_get e1
    rw [ho] at o1; cases o1
section
variable {c : Cf} {e : Expr} {es : List Expr} {Q : D → Prop} {Δ : Dl} {pos p lpos : Pos}
theorem wo_caught {x : Str} {params : Arguments} {body : Expr} {scope : Scope} {okX : XD → Prop} {told : XD → D} {none_ : D} {L : Lm} {c0 P : Addr} {q : Str} (k : Nat) (F : Caught c.P c.w c.K c.mg c.base x okX told none_) (hl : c.lam = some L) (hm : L.me = some (c0, P, q)) (hk : k + 2 ≤ c.k) (hg : Glo c x)
    (hs : LamX.lamSB c.sc scope = true) (hb : WO (lamC c scope k fun y => okX y ∧ Q (told y)) body (fun _ => Q none_) (noOwn Δ))
    (hdef : ∀ env, defaultsOf params env = ([], []) := by intro _; rfl) (hbind : ∀ (q : Str) (cl : List (Str × Addr)) (pm cv ctv : Value), bindArgs (PySem.W.kla_fn "<lambda>" q params body scope cl pm cv ctv) ⟨[], []⟩ = pure [] := by intro _ _ _ _ _; rfl)
    (hdb : (x == ("__debug__" : Str)) = false := by decide) (hh : c.hot = none := by rfl) : WO c (.Call (.Name x p) [.Lambda params body scope lpos] [] pos) Q Δ := fun X H0 Z0 hX σ H Z hS => by
  obtain ⟨g, a, pg, bg, sg, kV, doc, pm, cdv, ct, oc, an, od, osl, Ng, mgx, kp, lk, hcg, hbd, Sg, hNg, hva, ⟨hda, hca⟩, hG⟩ := F.ex
  obtain ⟨⟨gd, _⟩, tz0, hme⟩ := hX.lm L hl
  have un : X.A.units + 200 < cLine := by have := (hX.room hh).un; omega
  obtain ⟨hcode, hq, TB, hmem⟩ := hme c0 P q hm
  have hne : L.T ≠ [] := fun e => by rw [e] at hmem; cases hmem
  have tz' : TabsZ L.T Z H := tz0.step hS.stp
  have tz := tz' hne
  have ls : LamX.LamS X.env.scope scope := LamX.lamS_by (by rw [hX.sc]; exact hs)
  subst hq
  refine We.of (LamX.pe_lamcall (T := L.T) (TT := TTd c.K okX told none_) (c := c0) (P := P) (k := k) (t := fun E σ' H' Q' => ∀ A outer s HH f c' n, Room k (A.deeper (LamX.lamEnv X scope n f c')) → ∀ hn : n = s.heap.objs.size, We (LamX.lamCx X A outer s HH E scope f c') body σ' H' Q')
    (hX.gl hg) (by rw [hX.mg]; exact mgx) (by rw [hX.K]; exact kp) (by rw [hX.K]; exact lk) (by rw [hX.K]; exact hcg) (by rw [hX.K]; exact hbd) Sg hNg hva (hG X _ hX.P hX.w hX.K hX.mg hX.base gd un) TB hcode hmem
    (fun p hp hP => by
      obtain ⟨_, z1, _⟩ := tz.1 p hp
      obtain ⟨_, z2, _⟩ := tz.1 _ hmem
      rw [hP] at z1
      have z2 : Z P = _ := z2
      rw [z1] at z2
      exact tabM_inj (Option.some.inj z2)) ((hX.room hh).mono hk) ls (hdef _) hbind (fun A outer s HH E f c' hr => ⟨fun pins s' σ' H' Q' I h => h A outer s HH f c' _ hr rfl pins s' I⟩) hdb hda hca) ?_
  refine ⟨tz'.tabs hS.ok, fun H1 eN T1 => ?_⟩
  obtain ⟨Z1, st1⟩ := tab_grow hS.ok hne tz' (tz.1 _ hmem).1 eN T1
  refine ⟨Z1, fun y => okX y ∧ Q (told y), Q none_, st1.ok, fun R hR A outer s HH f c' n hr hn => ?_, fun nm v H' Z' s r => oPost.mono hS.ok st1 ⟨Z', none_, s, r, nm⟩, fun y hy => ⟨hy.1, fun v H' Z' s r => oPost.mono hS.ok st1 ⟨Z', told y, s, r, hy.2⟩⟩⟩
  subst hn
  have tk : Takes (LamX.lamCx X A outer s HH (fun cls d H' => ∃ Z' x, Stp H1 Z1 H' Z' ∧ RX c.K Z' H' cls d x ∧ okX x ∧ Q (told x)) scope f c') (fun cls d _ H' => ∃ Z' x, Stp H1 Z1 H' Z' ∧ RX c.K Z' H' cls d x ∧ okX x ∧ Q (told x)) := takes_of rfl rfl rfl rfl
  have hX1 : CtxOk (lamC c scope k fun y => okX y ∧ Q (told y)) H1 Z1 (LamX.lamCx X A outer s HH (fun cls d H' => ∃ Z' x, Stp H1 Z1 H' Z' ∧ RX c.K Z' H' cls d x ∧ okX x ∧ Q (told x)) scope f c') :=
    { P := hX.P, w := hX.w, K := hX.K, mg := hX.mg, base := hX.base, N := hX.N, sc := rfl, calm := fun _ => rfl, su := fun _ _ _ z => (nomatch z),
      lm := fun _ z => (nomatch z),
      room := fun _ => hr, nd := hX.nd, fn := fun _ z => (nomatch z), tk := tk }
  exact (hb _ H1 Z1 hX1 σ H1 Z1 (hS.lamb st1)).mono fun v H' ⟨Z', d, s, r, q⟩ => hR v H' Z' s q
theorem we_caught {x : Str} {params : Arguments} {body : Expr} {scope : Scope} {okX : XD → Prop} {told : XD → D} {none_ : D} {L : Lm} {c0 P : Addr} {q : Str} (k : Nat) (F : Caught c.P c.w c.K c.mg c.base x okX told none_) (hl : c.lam = some L) (hm : L.me = some (c0, P, q)) (hk : k + 2 ≤ c.k) (hg : Glo c x)
    (hs : LamX.lamSB c.sc scope = true) (hb : WO (lamC c scope k fun y => okX y ∧ Q (told y).frz) body (fun _ => Q none_.frz) (noOwn Δ))
    (hdef : ∀ env, defaultsOf params env = ([], []) := by intro _; rfl) (hbind : ∀ (q : Str) (cl : List (Str × Addr)) (pm cv ctv : Value), bindArgs (PySem.W.kla_fn "<lambda>" q params body scope cl pm cv ctv) ⟨[], []⟩ = pure [] := by intro _ _ _ _ _; rfl)
    (hdb : (x == ("__debug__" : Str)) = false := by decide) (hh : c.hot = none := by rfl) : WE c (.Call (.Name x p) [.Lambda params body scope lpos] [] pos) Q Δ := we_of_wo (wo_caught (hh := hh) k F hl hm hk hg hs hb hdef hbind hdb)
end

/-! ### defs that make lambdas, or call such defs, or show things -/
def liftT (K : PySem.W.Frag) (T : List (Addr × Str)) (sp : DSp) : Sp := fun vs H Q E => ∃ Z ds Q0 E0, OkZ H Z ∧ TabsZ T Z H ∧ Rps K Z vs ds ∧ sp ds Q0 E0 ∧ (∀ d, Q0 d → ∀ v H' Z', Stp H Z H' Z' → Rr K H H' Z' v d → Q v H') ∧
  ∀ x, E0 x → ∀ cls d H' Z', Stp H Z H' Z' → RX K Z' H' cls d x → E cls d H'
/-- as FnOk, where nothing is being shown -/
structure FnT (P : Program) (w : World) (K : PySem.W.Frag) (mg : Str → Option Value) (base : Heap) (T : List (Addr × Str)) (k : Nat) (f : Addr) (fd : FuncData) (ps : List Str) (sp : DSp) : Prop where
  len : ∀ ds Q E, sp ds Q E → ds.length = ps.length
  go : ∀ (A : Around) (outer : List Env) (s : Shared) (H : Hp) (args : Args) (us : List Value) (vs : List V) (Q : VK) (E : XK), A.guards = some [] → Room k A → Env0 P w K mg base A outer s H → BindsTo s fd args (ps.zip us) → Vals vs us → liftT K T sp vs H Q E →
    codeAny (model P w) A (.call (.ref f) args) (CR (L2.CX P w) outer P w H s Q E) s
structure DefT (P : Program) (w : World) (K : PySem.W.Frag) (mg : Str → Option Value) (base : Heap) (T : List (Addr × Str)) (j : Nat) (x : Str) (sp : DSp) : Prop where
  ex : ∃ f fd ps, mg x = some (.ref f) ∧ PySem.W.keepIn K (.ref f) = true ∧ Binds K fd ps [] ∧ FnT P w K mg base T j f fd ps sp
section
variable {c : Cf} {e : Expr} {es : List Expr} {Q : D → Prop} {Δ : Dl} {pos : Pos}
theorem fnT_run {X : Cx} {T : List (Addr × Str)} {j : Nat} {f : Addr} {fd : FuncData} {ps : List Str} {sp : DSp} {pins : List (Addr × Obj)} {σ : L2.St} {H1 : Hp} {s1 : Shared} {us : List Value} {vs : List V} {Q1 : VK} {E1 : XK} (FF : FnT X.prog X.w X.K X.mg X.base T j f fd ps sp) (gd : X.A.guards = some []) (rm : Room j X.A) (bd : Binds X.K fd ps [])
    (pa : Passes (L2.CX X.prog X.w) X E1) (J : Inv X pins σ H1 s1) (rr : Vals vs us) (hsp : liftT X.K T sp vs H1 Q1 E1) : wpAny (model X.prog X.w) X.A (call (.ref f) us) (EP X pins σ Q1) X.xe s1 := by
  have hl : us.length = ps.length := by
    obtain ⟨_, ds, _, _, _, _, r, h, _⟩ := hsp
    rw [← rr.length, r.length, FF.len _ _ _ h]
  have hb := bd s1 us J.kIn (by rw [List.append_nil]; exact hl)
  rw [List.append_nil] at hb
  refine wpAny_call (codeAny_mono (FF.go X.A X.stack s1 H1 ⟨us, []⟩ us vs Q1 E1 gd rm J.env0 hb rr hsp) fun end_ s2 hq => ?_)
  match end_, hq with
  | .error y, hq => exact pa pins σ H1 s1 y s2 J hq
  | .ok (.ret u), hq => exact J.after hq
  | .ok .next, hq => exact False.elim hq
  | .ok .brk, hq => exact False.elim hq
  | .ok .cont, hq => exact False.elim hq
theorem wo_callT {x : Str} {p : Pos} {j : Nat} {sp : DSp} {T : List (Addr × Str)} {me : Option (Addr × Addr × Str)} (F : DefT c.P c.w c.K c.mg c.base T j x sp) (hl : c.lam = some ⟨T, me⟩) (hj : j ≤ c.k) (hg : Glo c x) (h : WA c (e :: es) (fun ds => sp ds Q c.W) Δ) (hs : (e :: es).any isStar = false := by rfl)
    (hdb : (x == ("__debug__" : Str)) = false := by decide) (hh : c.hot = none := by rfl) : WO c (.Call (.Name x p) (e :: es) [] pos) Q Δ := fun X H0 Z0 hX σ H Z hS pins s I => by
  rw [List.any_cons, Bool.or_eq_false_iff] at hs
  obtain ⟨f, fd, ps, hm, hk, hb, FF⟩ := F.ex
  obtain ⟨⟨gd, _⟩, tz0, _⟩ := hX.lm _ hl
  have FF' : FnT X.prog X.w X.K X.mg X.base T j f fd ps sp := by rw [hX.P, hX.w, hX.K, hX.mg, hX.base]; exact FF
  refine wpAny_Call_Name_kw (ld_glob (u := .ref f) I (hX.gl hg) (by rw [hX.mg]; exact hm) ?_ hdb)
  refine PySem.W.callWith_K (h₀ := X.base) I.ok.mod.kin (by rw [hX.K]; exact hk) (thn (h X H0 Z0 hX σ H Z hS pos pins s I) fun us s1 ⟨vs, H1, I1, rv, Z1, ds, s1', r1, q1⟩ => ⟨I1.kIn, ?_⟩) (star1 hs.1) (star0 hs.2)
  refine fnT_run FF' gd ((hX.room hh).mono hj) (by rw [hX.K]; exact hb) hX.passes I1 rv ?_
  exact ⟨Z1, ds, Q, c.W, s1'.ok, (tz0.step hS.stp).step s1', by rw [hX.K]; exact r1, q1, fun d q v H' Z' st rr => oPost.mono hS.ok s1' ⟨Z', d, st, by rw [← hX.K]; exact rr, q⟩, fun x w cls d H' Z' st rx => ⟨Z', x, (hS.stp.trans s1').trans st, by rw [← hX.K]; exact rx, w⟩⟩
theorem we_callT {x : Str} {p : Pos} {j : Nat} {sp : DSp} {T : List (Addr × Str)} {me : Option (Addr × Addr × Str)} (F : DefT c.P c.w c.K c.mg c.base T j x sp) (hl : c.lam = some ⟨T, me⟩) (hj : j ≤ c.k) (hg : Glo c x) (h : WA c (e :: es) (fun ds => sp ds (fun d => Q d.frz) c.W) Δ) (hs : (e :: es).any isStar = false := by rfl)
    (hdb : (x == ("__debug__" : Str)) = false := by decide) (hh : c.hot = none := by rfl) : WE c (.Call (.Name x p) (e :: es) [] pos) Q Δ := we_of_wo (wo_callT (hh := hh) F hl hj hg h hs hdb)
end
/-- the name of the lambdas of the def of the name qual -/
def lq (qual : Str) : Str := qual ++ ".<locals>." ++ "<lambda>"
/-- a def that makes lambdas: its code object is told -/
structure FunL (K : PySem.W.Frag) (x qual : Str) (st : Stmt) (f : Addr) (fd : FuncData) (cv : Value) : Prop where
  ex : ∃ (oc : Value) (od : Option Addr) (kV doc pm : Value) (an : Option Addr) (ct : Value) (osl : Array (Option Value)),
    fd = PySem.W.fnOf x qual (defArgs st) (defBody st) (defScope st) .none kV doc pm an cv ct ∧ K.lookup f = some ⟨oc, od, .func fd, osl⟩ ∧ PySem.W.codeIn K cv qual = true
section
variable {P : Program} {w : World} {K : PySem.W.Frag} {mg : Str → Option Value} {base : Heap}
theorem def_T0 (T : List (Addr × Str)) (me : Option (Addr × Addr × Str)) {x qual : Str} {st : Stmt} {f : Addr} {cv : Value} {fd : FuncData} {N ps : List Str} {k : Nat} {sp : DSp} (F : FunL K x qual st f fd cv) (hme : ∀ c0 P0 q, me = some (c0, P0, q) → cv = .ref c0 ∧ lq qual = q ∧ LamX.TabB base mg c0 P0 ∧ (P0, q) ∈ T) (S : FnScope N ps (defScope st)) (len : ∀ ds Q E, sp ds Q E → ds.length = ps.length)
    (h : ∀ ds Q E, sp ds Q E → WB ⟨P, w, K, mg, base, N, defScope st, k, E, fun _ => true, none, some ⟨T, me⟩⟩ (defBody st) ⟨fun _ => Q .non, fun d _ => Q d, fun _ => False, fun _ => False⟩ (startD N ds)) : FnT P w K mg base T (k + 1) f fd ps sp := by
  obtain ⟨oc, od, kV, doc, pm, an, ct, osl, rfl, lk, hcd⟩ := F.ex
  refine ⟨len, fun A outer s H args us vs Q E gd hr e0 hb r hsp => ?_⟩
  obtain ⟨Z, ds, Q0, E0, ok, tz, rd, hs, kq, ke⟩ := hsp
  refine LamX.run_ofS (N := N) lk hcd S hr e0 hb r (by rw [rd.length, len _ _ _ hs]) fun hr' => ⟨_, pss_we, ?_⟩
  have hu : (A.deeper (envOfC qual (defScope st) s.heap.objs.size f cv)).units + 100 < cLine := by have := hr'.un; omega
  have tk : Takes (cxOf (L2.CX P w) P w K mg base N qual (defScope st) f cv A outer s H E) (fun cls d _ H => E cls d H) := takes_of rfl rfl rfl rfl
  have hX : CtxS ⟨P, w, K, mg, base, N, defScope st, k, E0, fun _ => true, none, some ⟨T, me⟩⟩ H Z (cxOf (L2.CX P w) P w K mg base N qual (defScope st) f cv A outer s H E) :=
    { P := rfl, w := rfl, K := rfl, mg := rfl, base := rfl, N := rfl, sc := rfl, calm := fun _ => rfl, su := fun _ _ _ z => (nomatch z), lm := fun L e => by cases e; exact ⟨⟨gd, hu⟩, tz, fun c1 P1 q1 z => by obtain ⟨a1, a2, a3, a4⟩ := hme c1 P1 q1 z; subst a1; subst a2; exact ⟨rfl, rfl, a3, a4⟩⟩, room := fun _ => hr', nd := S.nd, fn := fun _ _ _ => .inl rfl,
      tk := tk.imp fun cls d σ H' ⟨Z', y, st', rx, hw⟩ => ke y hw cls d H' Z' st' rx, own := passes_of rfl }
  intro pins s' I
  refine thn (h ds Q0 E0 hs _ H Z hX (L2.start N vs) H Z (slots_start ok rd) pins s' I) fun fl s2 q => sp_mono q (fun σ' H' ⟨Z', Δ', _, hS, q⟩ => ?_) (fun v H' ⟨Z', d, σ', Δ', hS, rr, q⟩ => kq d q v H' Z' hS.stp rr) (fun _ _ ⟨_, _, _, _, q⟩ => q.elim) fun _ _ ⟨_, _, _, _, q⟩ => q.elim
  exact kq .non q .non H' Z' hS.stp (.inl .non)
theorem funL_of {x qual : Str} {st : Stmt} {f : Addr} {fd : FuncData} (F : Fun K x qual st f fd) : ∃ cv, FunL K x qual st f fd cv := by
  obtain ⟨oc, od, kV, doc, pm, an, cdv, ct, osl, e, lk, hcd⟩ := F.ex
  exact ⟨cdv, ⟨oc, od, kV, doc, pm, an, ct, osl, e, lk, hcd⟩⟩
/-- a def that calls such defs -/
theorem def_okT (T : List (Addr × Str)) {x qual : Str} {st : Stmt} {f : Addr} {fd : FuncData} {N ps : List Str} {k : Nat} {sp : DSp} (F : Fun K x qual st f fd) (S : FnScope N ps (defScope st)) (len : ∀ ds Q E, sp ds Q E → ds.length = ps.length)
    (h : ∀ ds Q E, sp ds Q E → WB ⟨P, w, K, mg, base, N, defScope st, k, E, fun _ => true, none, some ⟨T, none⟩⟩ (defBody st) ⟨fun _ => Q .non, fun d _ => Q d, fun _ => False, fun _ => False⟩ (startD N ds)) : FnT P w K mg base T (k + 1) f fd ps sp := by
  obtain ⟨cv, G⟩ := funL_of F
  exact def_T0 T none G (fun _ _ _ z => nomatch z) S len h
/-- a def that makes lambdas -/
theorem def_okL (T : List (Addr × Str)) {x qual : Str} {st : Stmt} {f c0 P0 : Addr} {fd : FuncData} {N ps : List Str} {k : Nat} {sp : DSp} (F : FunL K x qual st f fd (.ref c0)) (TB : LamX.TabB base mg c0 P0) (hm : (P0, lq qual) ∈ T) (S : FnScope N ps (defScope st)) (len : ∀ ds Q E, sp ds Q E → ds.length = ps.length)
    (h : ∀ ds Q E, sp ds Q E → WB ⟨P, w, K, mg, base, N, defScope st, k, E, fun _ => true, none, some ⟨T, some (c0, P0, lq qual)⟩⟩ (defBody st) ⟨fun _ => Q .non, fun d _ => Q d, fun _ => False, fun _ => False⟩ (startD N ds)) : FnT P w K mg base T (k + 1) f fd ps sp :=
  def_T0 T _ F (fun c1 P1 q1 z => by cases z; exact ⟨rfl, rfl, TB, hm⟩) S len h
end
end DL
end
section
set_option Elab.async false
set_option linter.all false
set_option maxRecDepth 100000
set_option maxHeartbeats 4000000
/-! DL21: repr of data. -/
namespace DL
open PySem PySem.Spec PyProof.Rows L2
section
variable {prog : Program} {w : World}
theorem repr_reads {A : Around} {E : Value → Shared → Prop} {s : Shared} {Q : Value → Shared → Prop} (hg : A.guards = some []) : ∀ {v : Value} {d : PyData} {as : List Addr}, Reads s.heap v d as → d.showable = true → d.hasDict = false → A.units + 1 + d.depth < cLine → d.shown.length ≤ sizeLine →
    (∀ h' u tk, (∀ b o, s.heap.get? b = some o → h'.get? b = some o) → Q (.str d.shown u) { s with heap := h', toks := tk }) → wpAny (model prog w) A (call (.builtin "repr") [v]) Q E s
  | _, _, _, .none, _, _, _, _, q => by
    simp only [PyData.shown] at q
    exact P.repr_of_none (q s.heap _ _ fun _ _ e => e)
  | _, _, _, .bool b, _, _, _, _, q => by
    simp only [PyData.shown] at q
    exact P.repr_of_bool (q s.heap _ _ fun _ _ e => e)
  | _, _, _, .int i t, hs, _, _, _, q => by
    simp only [PyData.shown] at q
    exact P.repr_of_int (by simpa [PyData.showable] using hs) (q s.heap _ _ fun _ _ e => e)
  | _, _, _, .str x t, _, _, _, hz, q => by
    simp only [PyData.shown] at q
    exact P.repr_of_str (q s.heap _ _ fun _ _ e => e) (by simpa only [PyData.shown] using hz)
  | _, _, _, .tuple (a := a) (xs := xs) h1 h2 h3 h4, hs, hn, hu, hz, q => by
    have hz1 : (tupleText (PyData.shownAll xs)).length ≤ sizeLine := by simpa only [PyData.shown] using hz
    obtain ⟨bs, hb, hk⟩ := ReprAllK.of_readsAll (prog := prog) (w := w) h4 (by simpa [PyData.showable] using hs) (fun hx => by rw [show (PyData.tuple xs).hasDict = PyData.hasDictAll xs from by simp only [PyData.hasDict]] at hn; rw [hn] at hx; cases hx) (fun t ht => Nat.le_trans (tupleText_mem_le ht) hz1)
    have r0 : Reads s.heap (.ref a) (.tuple xs) _ := .tuple h1 h2 h3 h4
    have away : a ∉ bs := not_mem_of_deeper r0 (by simp only [PyData.depth]; omega) hb
    simp only [PyData.depth] at hu
    simp only [PyData.shown] at q
    exact call_repr_slot (by omega) ⟨_, h1, h2⟩ F.slot_tuple_repr (call_tuple_reprK (A := A.in1) h1 h2 h3 away hk hg (fun b _ => Clear.nil b) (by show A.units + 1 + _ < cLine; omega) (fun _ _ e => e) (fun h' u tk hk' => ⟨_, _, rfl, q h' u tk hk'⟩) hz1)
  | _, _, _, .list (a := a) (vs := vs) (xs := xs) h1 h2 h3 h4, hs, hn, hu, hz, q => by
    have hz1 : (listText (PyData.shownAll xs)).length ≤ sizeLine := by simpa only [PyData.shown] using hz
    obtain ⟨bs, hb, hk⟩ := ReprAllK.of_readsAll (prog := prog) (w := w) h4 (by simpa [PyData.showable] using hs) (fun hx => by rw [show (PyData.list xs).hasDict = PyData.hasDictAll xs from by simp only [PyData.hasDict]] at hn; rw [hn] at hx; cases hx) (fun t ht => Nat.le_trans (listText_mem_le ht) hz1)
    have r0 : Reads s.heap (.ref a) (.list xs) _ := .list h1 h2 h3 h4
    have away : a ∉ bs := not_mem_of_deeper r0 (by simp only [PyData.depth]; omega) hb
    simp only [PyData.depth] at hu
    simp only [PyData.shown] at q
    obtain ⟨l⟩ := vs
    cases l with
    | nil =>
      have h5 : ReadsAll s.heap [] xs _ := h4
      cases h5
      simp only [PyData.shownAll, listText_nil] at q
      exact call_repr_slot (by omega) ⟨_, h1, h2⟩ F.slot_list_repr.toG (call_list_repr_empty ⟨_, h1, h2⟩ h1 h3 ⟨_, _, rfl, q s.heap _ _ fun _ _ e => e⟩)
    | cons x l =>
      exact call_repr_slot (by omega) ⟨_, h1, h2⟩ F.slot_list_repr.toG (call_list_reprK (A := A.in1) h1 h2 h3 away (by simpa using hk.length_eq) (fun i y e => hk.item i y (by simpa using e)) hg (fun b _ => Clear.nil b) (by show A.units + 1 + _ < cLine; omega) (fun _ _ e => e) (fun h' u tk hk' => ⟨_, _, rfl, q h' u tk hk'⟩) hz1)
  | _, _, _, .dict _ _ _ _ _, _, hn, _, _, _ => by
    simp only [PyData.hasDict] at hn
    cases hn
end
theorem call_reprD {X : Cx} (hg : X.A.guards = some []) (hu : X.A.units + 100 < cLine) : CallR X (.builtin "repr") (fun xs H Q => ∃ x d, xs = [x] ∧ Dp X.K H x d ∧ d.showable = true ∧ d.hasDict = false ∧ d.depth ≤ 64 ∧ d.shown.length ≤ sizeLine ∧ Q (.str d.shown) H) := by
  intro pins s σ H xs us Q I r ⟨x, d, e, hd, h1, h2, h3, h4, q⟩
  subst e
  cases r with
  | cons r1 r2 =>
    cases r2
    obtain ⟨as, rd⟩ := Dp.reads I d x _ hd r1
    exact repr_reads hg rd h1 h2 (by omega) h4 fun h' u tk kp => ⟨.str d.shown, H, I.kept kp, ⟨_, rfl⟩, q⟩
/-- what may be shown: pure, no longer than n signs -/
structure Sd (n m : Nat) (d : D) : Prop where
  pu : d.pure = true
  sw : d.py.showable = true
  nd : d.py.hasDict = false
  ln : d.py.shown.length ≤ n
  de : d.py.depth ≤ m
section
variable {c : Cf} {Q : D → Prop}
theorem vc_repr {x : D} {n m : Nat} {L : Lm} (h : Sd n m x) (hl : c.lam = some L) (q : Q (.str x.py.shown)) (hn : n ≤ 1000000 := by decide) (hm : m ≤ 64 := by decide) : VC c (.builtin "repr") [x] Q := fun X H0 Z0 hX H Z vs ok r => by
  obtain ⟨⟨gd, un⟩, _⟩ := hX.lm L hl
  obtain ⟨v, rfl, r1⟩ := r.one
  exact ⟨_, call_reprD gd un, v, x.py, rfl, by rw [hX.K]; exact dp_of ok x h.pu r1, h.sw, h.nd, Nat.le_trans h.de hm, by rw [sizeLine_eq]; exact Nat.le_trans h.ln (by omega), opost ok .str q⟩
end
theorem Sd.non {m : Nat} : Sd 4 m .non := ⟨rfl, by simp only [D.py, PyData.showable], by simp only [D.py, PyData.hasDict], by simp only [D.py, PyData.shown]; decide +kernel, by simp only [D.py, PyData.depth]; exact Nat.zero_le _⟩
theorem Sd.bl {m : Nat} {b : Bool} : Sd 5 m (.bl b) := ⟨rfl, by simp only [D.py, PyData.showable], by simp only [D.py, PyData.hasDict], by simp only [D.py, PyData.shown]; cases b <;> decide +kernel, by simp only [D.py, PyData.depth]; exact Nat.zero_le _⟩
theorem log2_small {i : Int} (h : i.natAbs < 10 ^ 12) : i.natAbs.log2 < 1920 := by
  by_cases z : i.natAbs = 0
  · rw [z]; decide
  · have := (Nat.log2_lt z (k := 40)).mpr (by omega)
    omega
theorem Sd.int {m : Nat} {i : Int} (h : i.natAbs < 10 ^ 12) : Sd 13 m (.int i) := ⟨rfl, by simp only [D.py, PyData.showable]; exact decide_eq_true (log2_small h), by simp only [D.py, PyData.hasDict], PyData.shown_int_le h, by simp only [D.py, PyData.depth]; exact Nat.zero_le _⟩
theorem Sd.str {m : Nat} {x : Str} (h : ∀ c ∈ x.cps.toList, c < 16 ^ 8) : Sd (10 * x.length + 2) m (.str x) := ⟨rfl, by simp only [D.py, PyData.showable], by simp only [D.py, PyData.hasDict], by simp only [D.py, PyData.shown]; exact StrLaws.reprText_len x h, by simp only [D.py, PyData.depth]; exact Nat.zero_le _⟩
theorem Sd.mono {n n' m m' : Nat} {d : D} (h : Sd n m d) (a : n ≤ n') (b : m ≤ m') : Sd n' m' d := ⟨h.pu, h.sw, h.nd, Nat.le_trans h.ln a, Nat.le_trans h.de b⟩
theorem sds {n m : Nat} : ∀ {l : List D}, (∀ d ∈ l, Sd n m d) → pures l = true ∧ PyData.showableAll (pys l) = true ∧ PyData.hasDictAll (pys l) = false ∧ piled (PyData.shownAll (pys l)) ≤ (n + 2) * l.length ∧ PyData.depthAll (pys l) ≤ m
  | [], _ => ⟨rfl, by simp only [pys, PyData.showableAll], by simp only [pys, PyData.hasDictAll], by simp only [pys, PyData.shownAll]; exact Nat.zero_le _, by simp only [pys, PyData.depthAll]; exact Nat.zero_le _⟩
  | d :: l, h => by
    obtain ⟨a, b, c, e, f⟩ := sds (l := l) fun d hd => h d (List.mem_cons_of_mem _ hd)
    have k := h d List.mem_cons_self
    refine ⟨?_, ?_, ?_, ?_, ?_⟩
    · show (d.pure && pures l) = true; rw [k.pu, a]; rfl
    · simp only [pys, PyData.showableAll, k.sw, b, Bool.and_self]
    · simp only [pys, PyData.hasDictAll, k.nd, c, Bool.or_self]
    · simp only [pys, PyData.shownAll]
      rw [piled_cons]
      have := k.ln
      rw [List.length_cons, Nat.mul_succ]
      omega
    · simp only [pys, PyData.depthAll]; exact Nat.max_le.mpr ⟨k.de, f⟩
theorem Sd.tup {n m : Nat} {l : List D} (h : ∀ d ∈ l, Sd n m d) : Sd ((n + 2) * l.length + 2) (m + 1) (.tup l) := by
  obtain ⟨a, b, c, e, f⟩ := sds h
  refine ⟨a, by simp only [D.py, PyData.showable]; exact b, by simp only [D.py, PyData.hasDict]; exact c, ?_, by simp only [D.py, PyData.depth]; omega⟩
  simp only [D.py, PyData.shown]
  exact Nat.le_trans (fmt_text _) (by omega)
end DL
end
section
set_option Elab.async false
set_option linter.all false
set_option maxRecDepth 100000
set_option maxHeartbeats 4000000
/-! DL22: the end of a law that makes lambdas or shows things. -/
namespace DL
open PySem PySem.Spec PyProof.Rows L2
def tab0 : Obj := { cls := .none, data := .fields #[] }
/-- what is tracked at the start: the tables of codes, the script where K does not know it -/
def atStart (tb : List Addr) (a : Addr) (scr : Option HO) : Hp := fun b => if b ∈ tb then some (.tbl #[]) else if b = a then scr else none
theorem atStart_tab {tb : List Addr} {a b : Addr} {scr : Option HO} (h : b ∈ tb) : atStart tb a scr b = some (.tbl #[]) := if_pos h
theorem atStart_scr {tb : List Addr} {a : Addr} {scr : Option HO} (h : a ∉ tb) : atStart tb a scr a = scr := by unfold atStart; rw [if_neg h, if_pos rfl]
theorem atStart_cases {tb : List Addr} {a b : Addr} {scr : Option HO} {u : HO} (h : atStart tb a scr b = some u) : (b ∈ tb ∧ u = .tbl #[]) ∨ (b ∉ tb ∧ b = a ∧ scr = some u) := by
  by_cases hb : b ∈ tb
  · rw [atStart_tab hb] at h; cases h; exact .inl ⟨hb, rfl⟩
  · by_cases ha : b = a
    · subst ha; rw [atStart_scr hb] at h; exact .inr ⟨hb, rfl, h⟩
    · unfold atStart at h; rw [if_neg hb, if_neg ha] at h; cases h
/-- the marks at the start -/
def zStart (T : List (Addr × Str)) (a : Addr) (scr : Option HO) : Sh := fun b => match T.lookup b with
  | some q => some (tabM q)
  | none => if b = a then scr.map fz else none
theorem lookup_mem {P : Addr} {q : Str} : ∀ {T : List (Addr × Str)}, T.lookup P = some q → (P, q) ∈ T
  | [], h => by simp [List.lookup] at h
  | (P', q') :: T, h => by
    rw [List.lookup_cons] at h
    cases e : (P == P') with
    | true =>
      rw [e] at h
      have e2 : P = P' := beq_iff_eq.mp e
      cases h; subst e2; exact List.mem_cons_self
    | false => rw [e] at h; exact List.mem_cons_of_mem _ (lookup_mem h)
theorem lookup_some {T : List (Addr × Str)} {P : Addr} {q : Str} (u : ∀ p ∈ T, ∀ p' ∈ T, p.1 = p'.1 → p.2 = p'.2) (h : (P, q) ∈ T) : T.lookup P = some q := by
  cases e : T.lookup P with
  | some q' =>
    have := u _ h _ (lookup_mem e) rfl
    have e2 : q = q' := this
    rw [e2]
  | none =>
    have := List.lookup_eq_none_iff.mp e _ h
    simp at this
/-- what the law's def is known to promise -/
structure TopT (l : PySem.W.OpenLaw) (w : World) (K : PySem.W.Frag) (k n : Nat) (x : Str) (mg : Str → Option Value) (fa : Addr) (h : Heap) : Prop where
  ex : ∃ (fd : FuncData) (cs : List (Addr × Addr × Str)) (sp : DSp), (∀ p ∈ cs, h.get? p.2.1 = some tab0 ∧ K.lookup p.2.1 = none ∧ PySem.W.codeHdIn K p.1 p.2.1 = true) ∧ (∀ p ∈ cs, ∀ p' ∈ cs, p.2.1 = p'.2.1 → p.2.2 = p'.2.2) ∧
    (∀ (s : Shared) (u : Value), BindsTo s fd ⟨[u], []⟩ [(x, u)]) ∧ (∀ ns : List Int, ns.length ≤ n → sp [.scr ns] (fun d => d = .bl true) fun _ => False) ∧
    ∀ base : Heap, K.In base → base.Ns mainGlobals mg → (∀ p ∈ cs, LamX.TabB base mg p.1 p.2.1) → FnT l.prog w K mg base (cs.map (·.2)) k fa fd [x] sp
section
variable {l : PySem.W.OpenLaw} {w : World} {K : PySem.W.Frag} {k n : Nat} {x : Str} {mg mb : Str → Option Value} {fa a : Addr} {s : Shared} {vs : List Value} {ns : List Int}
theorem startT (K : PySem.W.Frag) {cs : List (Addr × Addr × Str)} (uq : ∀ p ∈ cs, ∀ p' ∈ cs, p.2.1 = p'.2.1 → p.2.2 = p'.2.2) {scr : Option HO} (hscr : scr = none ∨ ∃ o, scr = some (.frz o (.lst (ns.map V.int)))) (aT : a ∉ cs.map fun p => p.2.1)
    (rk : scr = none → Rp K (zStart (cs.map (·.2)) a scr) (.ref a) (.scr ns)) {sp : DSp} (hsp : sp [.scr ns] (fun d => d = .bl true) fun _ => False) : liftT K (cs.map (·.2)) sp [.ref a] (atStart (cs.map fun p => p.2.1) a scr) (fun v _ => v = .bl true) fun _ _ _ => False := by
  have uT : ∀ p ∈ cs.map (·.2), ∀ p' ∈ cs.map (·.2), p.1 = p'.1 → p.2 = p'.2 := fun p hp p' hp' e => by
    obtain ⟨c, hc, rfl⟩ := List.mem_map.mp hp
    obtain ⟨c', hc', rfl⟩ := List.mem_map.mp hp'
    exact uq c hc c' hc' e
  have inT : ∀ {P : Addr} {q : Str}, (P, q) ∈ cs.map (·.2) → P ∈ cs.map fun p => p.2.1 := fun {P q} h => by
    obtain ⟨c, hc, e⟩ := List.mem_map.mp h
    exact List.mem_map.mpr ⟨c, hc, by rw [e]⟩
  have zT : ∀ {P : Addr} {q : Str}, (P, q) ∈ cs.map (·.2) → zStart (cs.map (·.2)) a scr P = some (tabM q) := fun {P q} h => by
    unfold zStart; rw [lookup_some uT h]
  have zc : ∀ {b : Addr} {φ : HO → Prop}, zStart (cs.map (·.2)) a scr b = some φ → (∃ q, (b, q) ∈ cs.map (·.2) ∧ φ = tabM q) ∨ (b = a ∧ b ∉ cs.map (fun p => p.2.1) ∧ ∃ o, scr = some o ∧ φ = fz o) := fun {b φ} h => by
    unfold zStart at h
    cases e : (cs.map (·.2)).lookup b with
    | some q => rw [e] at h; cases h; exact .inl ⟨q, lookup_mem e, rfl⟩
    | none =>
      rw [e] at h
      by_cases hb : b = a
      · subst hb
        have h : (if b = b then scr.map fz else none) = some φ := h
        rw [if_pos rfl] at h
        cases he : scr with
        | none => rw [he] at h; cases h
        | some o => rw [he] at h; cases h; exact .inr ⟨rfl, aT, o, rfl, rfl⟩
      · have h : (if b = a then scr.map fz else none) = some φ := h
        rw [if_neg hb] at h; cases h
  have ok : OkZ (atStart (cs.map fun p => p.2.1) a scr) (zStart (cs.map (·.2)) a scr) := ⟨fun b φ h => by
    rcases zc h with ⟨q, hm, rfl⟩ | ⟨rfl, hb, o, e, rfl⟩
    · exact ⟨_, atStart_tab (inT hm), tabM_tbl _⟩
    · exact ⟨o, by rw [atStart_scr hb]; exact e, rfl⟩, fun b φ vs h hv => by
    rcases zc h with ⟨q, hm, rfl⟩ | ⟨rfl, hb, o, e, rfl⟩
    · rw [atStart_tab (inT hm)] at hv; cases hv
    · rw [atStart_scr hb, e] at hv; cases hv; rfl, fun b sp h => by
    rcases zc h with ⟨q, hm, e⟩ | ⟨_, _, o, _, e⟩
    · exact absurd e.symm (Nk.tab sp)
    · exact absurd e.symm (Nk.fz sp)⟩
  have nt : NoT (zStart (cs.map (·.2)) a scr) := fun b φ h => by
    rcases zc h with ⟨q, _, e⟩ | ⟨_, _, o, e, e2⟩
    · exact .inl ⟨q, e⟩
    · subst e2
      rcases hscr with z | ⟨o', z⟩
      · rw [z] at e; cases e
      · rw [z] at e; cases e; exact .inr (.fz fun ps z => nomatch z)
  refine ⟨zStart (cs.map (·.2)) a scr, [.scr ns], fun d => d = .bl true, fun _ => False, ok, fun _ => ⟨fun p hp => ⟨nt, zT hp, #[], atStart_tab (inT hp), True.intro, fun pos cv hc => ?_⟩, fun P q h => ?_⟩, .cons ?_ .nil, hsp, fun d e v H' Z' st r => ?_, fun _ z => z.elim⟩
  · have z : codeAmong pos [] = some cv := hc
    simp [codeAmong] at z
  · rcases zc h with ⟨q', hm, e⟩ | ⟨_, _, o, e, e2⟩
    · rw [tabM_inj e]; exact hm
    · have k : fz o (.tbl #[]) := by rw [← e2]; exact tabM_tbl #[]
      have k : HO.tbl #[] = o := k
      subst k
      rcases hscr with z | ⟨o', z⟩
      · rw [z] at e; cases e
      · rw [z] at e; cases e
  · rcases hscr with z | ⟨o, z⟩
    · exact rk z
    · refine .scrF (o := o) ?_
      unfold zStart
      have hno : (cs.map (·.2)).lookup a = none := by
        cases e : (cs.map (·.2)).lookup a with
        | none => rfl
        | some q => exact absurd (inT (lookup_mem e)) aT
      rw [hno]
      show (if a = a then scr.map fz else none) = _
      rw [if_pos rfl, z]; rfl
  · subst e
    rcases r with r | ⟨_, _, _, _, _, _, r⟩
    · cases r; rfl
    · cases r
theorem topT_go (KX : K.In s.heap) (g : s.heap.Ns mainGlobals mg) (bI : s.heap.Ns builtinsNs mb) (bI2 : ∀ x : Str, x ≠ "__name__" → mb x = bootBuiltins x) (nl : s.heap.NoLimit) (ge : s.gens = #[])
    (bm : ∃ (m : Addr) (ob : Obj), mg "__builtins__" = some (.ref m) ∧ m ≠ builtinsNs ∧ s.heap.get? m = some ob ∧ ob.cls = .type "module" ∧ ob.dict = some builtinsNs ∧ ob.data = .plain)
    (ha : s.heap.get? a = some { cls := .type "list", data := .seq vs.toArray }) (hi : IntsAre vs ns) (hl : ns.length ≤ sizeLine) (hn : ns.length ≤ n) (rm : Room k callerA) (T : TopT l w K k n x mg fa s.heap) :
    codeAny (model l.prog w) callerA (.call (.ref fa) ⟨[.ref a], []⟩) (fun r s' => r = .ok (.ret (.bool true)) ∧ OldK s.heap s'.heap ∧ s'.os = s.os ∧ AllBare s'.gens) s := by
  obtain ⟨fd, cs, sp, tabs, uq, hb, hsp, F⟩ := T.ex
  have vi := vals_ints hi
  have isTab : ∀ {b : Addr}, b ∈ cs.map (fun p => p.2.1) → s.heap.get? b = some tab0 ∧ K.lookup b = none := fun {b} h => by
    obtain ⟨p, hp, rfl⟩ := List.mem_map.mp h
    exact ⟨(tabs p hp).1, (tabs p hp).2.1⟩
  have aT : a ∉ cs.map fun p => p.2.1 := fun z => by
    have e := ha.symm.trans (isTab z).1
    have e2 := congrArg Obj.data (Option.some.inj e)
    cases e2
  -- what is tracked; whether K knows the script
  obtain ⟨scr, hscr, hsK, rk⟩ : ∃ scr : Option HO, (scr = none ∨ ∃ o, scr = some (.frz o (.lst (ns.map V.int)))) ∧ ((∃ u, scr = some u) → K.lookup a = none ∧ scr = some (.frz { cls := .type "list", data := .seq vs.toArray } (.lst (ns.map V.int)))) ∧ (scr = none → ∀ Z, Rp K Z (.ref a) (.scr ns)) := by
    cases e : K.lookup a with
    | none => exact ⟨_, .inr ⟨_, rfl⟩, fun _ => ⟨rfl, rfl⟩, fun z => nomatch z⟩
    | some o =>
      have ho := ha.symm.trans (KX a o e)
      cases ho
      refine ⟨none, .inl rfl, fun ⟨_, z⟩ => (nomatch z), fun _ Z => .scrK ⟨_, vs.toArray, _, e, rfl, rfl, rfl, ?_, by simpa using vi⟩⟩
      have := hi.length
      rw [List.size_toArray]; omega
  let tb := cs.map fun p => p.2.1
  let H := atStart tb a scr
  have free : ∀ {b : Addr} {o : Obj}, s.heap.get? b = some o → (∀ q m, o.data ≠ .seq q m) → o.data ≠ .fields #[] → H b = none := fun {b o} e n1 n2 => by
    cases q : H b with
    | none => rfl
    | some u =>
      rcases atStart_cases q with ⟨hm, _⟩ | ⟨_, rfl, _⟩
      · have z := e.symm.trans (isTab hm).1
        cases z; exact absurd rfl n2
      · have z := e.symm.trans ha
        cases z; exact absurd rfl (n1 _ _)
  have kF : ∀ {b : Addr} {o : Obj}, K.lookup b = some o → H b = none := fun {b o} e => by
    cases q : H b with
    | none => rfl
    | some u =>
      rcases atStart_cases q with ⟨hm, _⟩ | ⟨_, rfl, z⟩
      · rw [(isTab hm).2] at e; cases e
      · rw [(hsK ⟨u, z⟩).1] at e; cases e
  have dct : ∀ {b : Addr} {m : Str → Option Value}, s.heap.Ns b m → (hidT s.heap H).Ns b m := fun {b m} ⟨o, es, ep, e, d, r⟩ => ⟨o, es, ep, hidT_get e (free e (fun q m z => by rw [d] at z; cases z) fun z => by rw [d] at z; cases z), d, r⟩
  have KB : K.In (hidT s.heap H) := fun b o e => hidT_get (KX b o e) (kF e)
  have md : L2.Mod K mg (hidT s.heap H) := ⟨KB, dct g, ⟨mb, dct bI, bI2⟩, let ⟨mc, h1, h2⟩ := nl; ⟨mc, dct h1, h2⟩⟩
  have TBs : ∀ p ∈ cs, LamX.TabB (hidT s.heap H) mg p.1 p.2.1 := fun p hp => by
    obtain ⟨t1, _, t3⟩ := tabs p hp
    obtain ⟨m, ob, b1, b2, b3, b4, b5, b6⟩ := bm
    refine NdefX.tabB_of_K KB t3 ⟨m, ob, b1, b2, fun q => ?_, fun q => ?_, hidT_get b3 (free b3 (fun q m z => by rw [b6] at z; cases z) fun z => by rw [b6] at z; cases z), b4, b5, b6⟩ fun z => ?_
    · obtain ⟨o, es, ep, e, hd, _⟩ := g
      rw [← q, b3] at e; cases e
      rw [b6] at hd; cases hd
    · rw [q, t1] at b3; cases b3; cases b6
    · obtain ⟨o, es, ep, e, hd, _⟩ := g
      rw [z, t1] at e; cases e; cases hd
  have hok : HOk l.prog w H s.heap := fun b u e => by
    rcases atStart_cases e with ⟨hm, rfl⟩ | ⟨_, rfl, z⟩
    · exact (isTab hm).1
    · obtain ⟨_, z2⟩ := hsK ⟨u, z⟩
      rw [z] at z2; cases z2
      refine ⟨ha, ?_, vs, _, vi, ha⟩
      rw [List.length_map]; omega
  have e0 : Env0 l.prog w K mg (hidT s.heap H) callerA [] s H := { frames := rfl, mod := md, bs := fun b o e => of_hidT e, bsz := Nat.le_of_eq (hidT_size _ _), funs := trivial, frf := fun b z => (nomatch z), hok := hok, bare := .of_eq ge }
  refine codeAny_mono ((F _ KB (dct g) TBs).go callerA [] s H ⟨[.ref a], []⟩ [.ref a] [.ref a] _ _ rfl rm e0 (hb s (.ref a)) (.cons rfl .nil) (startT K uq hscr aT (fun z => rk z _) (hsp ns hn))) fun r s' q => ?_
  match r, q with
  | .error y, q => obtain ⟨_, _, _, _, _, _, _, _, _, _, _, _, z⟩ := q; exact z.elim
  | .ok .next, q => exact False.elim q
  | .ok .brk, q => exact False.elim q
  | .ok .cont, q => exact False.elim q
  | .ok (.ret u), q =>
    obtain ⟨v, H', eo, eb, un, hok', rv, qv⟩ := q
    have qv : v = .bl true := qv
    subst qv
    have eu : u = Value.bool true := rv
    subst eu
    have grown : ∀ {b : Addr}, b ∈ tb → ∃ more : Array Value, s'.heap.get? b = some { cls := .none, data := .fields more } := fun {b} hm => by
      obtain ⟨more, z⟩ := un.tbls b #[] (atStart_tab hm)
      exact ⟨_, hok' b _ z⟩
    have same : ∀ {b : Addr} {o : Obj}, b ∉ tb → s.heap.get? b = some o → s'.heap.get? b = some o := fun {b o} hm e => by
      cases q : H b with
      | none => exact un.keep b o e q (fun z => nomatch z) fun z => nomatch z
      | some u =>
        rcases atStart_cases q with ⟨hm2, _⟩ | ⟨_, rfl, z⟩
        · exact absurd hm2 hm
        · obtain ⟨_, z2⟩ := hsK ⟨u, z⟩
          rw [z] at z2; cases z2
          obtain ⟨e2, _⟩ := hok' b _ (un.frzs b _ _ q)
          have := e.symm.trans ha
          cases this
          exact e2
    refine ⟨rfl, ⟨fun b o e => ?_, fun b o e => ?_⟩, eo, eb⟩
    · by_cases hm : b ∈ tb
      · obtain ⟨more, z⟩ := grown hm
        obtain ⟨p, hp, rfl⟩ := List.mem_map.mp hm
        obtain ⟨t1, _, t3⟩ := tabs p hp
        have e1 := e.symm.trans t1
        cases e1
        refine .inr (.inl ⟨((PySem.W.codeHd_of_K KX t3).tab t1).isCodeTable, rfl, #[], more, rfl, ?_⟩)
        rw [Array.empty_append]; exact z
      · exact .inl (same hm e)
    · by_cases hm : b ∈ tb
      · obtain ⟨more, z⟩ := grown hm
        exact ⟨_, z⟩
      · exact ⟨o, same hm e⟩
end
/-- the tables of the defs of the text are empty at the start -/
def Empt (q : Program) (K : PySem.W.Frag) (mg : Str → Option Value) (h : Heap) : Prop := ∀ (nm : Str) (f c P : Addr) (o : Obj) (fd : FuncData) (e : Value) (dd : Option Addr) (vs : Array Value) (sl : Array (Option Value)),
  ((recsOf q).any fun d => d.name == nm) = true → mg nm = some (.ref f) → K.lookup f = some o → o.data = .func fd → fd.code = .ref c → K.lookup c = some ⟨e, dd, .fields vs, sl⟩ → vs[11]? = some (.ref P) → h.get? P = some tab0
theorem walk_T {l : PySem.W.OpenLaw} {n k : Nat} {q : Program} {loose : List Str} {XP : (Str → Option Value) → Heap → Prop} {YP : World → Heap → Prop} {d : DefRec} {K : Params → PySem.W.Frag} {x : Str}
    (hn : l.most = some n) (hn2 : n ≤ sizeLine) (hdf : d.params.defaults = []) (rm : Room k callerA) (hY : ∀ (w : World) (h : Heap), YP w h → (K w.params).In h)
    (F : ∀ (w : World) (mg : Str → Option Value) (fa : Addr) (h : Heap), (K w.params).In h → h.Ns mainGlobals mg → mg d.name = some (.ref fa) → Empt q (K w.params) mg h → TopT l w (K w.params) k n x mg fa h) :
    PySem.W.WalkO q loose XP YP l.row.toRowW d [] (fun f vs => PySem.call f vs) := by
  refine Att.attach_callB hn hdf fun w s₀ s mg mb fa o pm cd doc a vs ns G Y ho hd hcd hm hobj hi hl hbits hg => ?_
  have KX := hY w _ Y
  have em : Empt q (K w.params) mg s.heap := fun nm f c P o1 fd1 e dd vs1 sl k0 k1 k2 k3 k4 k5 k6 => by
    obtain ⟨dr, hdr, en⟩ := List.any_eq_true.mp k0
    have en : dr.name = nm := beq_iff_eq.mp en
    obtain ⟨a', o', fd', c', P', h1, h2, h3, h4, h5, h6⟩ := G.T.tab dr hdr
    rw [en, k1] at h1
    cases h1
    have e2 := (KX _ _ k2).symm.trans h2
    cases e2
    have e3 := k3.symm.trans h3
    cases e3
    have e4 := k4.symm.trans h4
    cases e4
    obtain ⟨⟨oc, vc, t1, _, t3, t4⟩, emp⟩ := h6
    have e5 := (KX _ _ k5).symm.trans t1
    cases e5
    cases t3
    have e6 := k6.symm.trans t4
    cases e6
    exact emp
  exact topT_go KX G.T.g G.T.b G.T.builtins G.T.nolimit hg G.T.bmain hobj hi (Nat.le_trans hl hn2) hl rm (F w mg fa _ KX G.T.g hm em)
end DL
end
section
set_option Elab.async false
set_option linter.all false
set_option maxRecDepth 100000
set_option maxHeartbeats 4000000
/-! DL23: small rules. -/
namespace DL
open PySem PySem.Spec PyProof.Rows L2
def IsSeq (d : D) (l : List D) : Prop := d = .lst l ∨ d = .tup l
theorem IsSeq.own {d : D} {l : List D} (h : IsSeq d l) : d.own = false := by rcases h with rfl | rfl <;> rfl
section
variable {c : Cf} {e a b : Expr} {es : List Expr} {Q : D → Prop} {Δ : Dl} {pos : Pos}
theorem WI.imp {tg iter : Expr} {Q Q' : List D → Prop} (h : WI c tg iter Q Δ) (k : ∀ l, Q l → Q' l) : WI c tg iter Q' Δ := fun X H0 Z0 hX σ H Z hS =>
  (h X H0 Z0 hX σ H Z hS).mono fun J H' ⟨Z', items, s, y, q⟩ => ⟨Z', items, s, y, k _ q⟩
/-- over a name that holds a list or a tuple -/
theorem wi_seq (i : Nat) {tg : Expr} {x : Str} {d : D} {l : List D} {Q : List D → Prop} (hN : c.N[i]? = some x) (hv : Vis c.sc x) (hi : Δ[i]? = some (some d)) (hd : IsSeq d l) (q : Q l) (h1 : (x == ("__debug__" : Str)) = false := by decide) (h2 : (x == ("__classdict__" : Str)) = false := by decide) : WI c tg (.Name x pos) Q Δ := by
  rcases hd with rfl | rfl
  · exact wi_lst (we_var i hN hv hi rfl ⟨_, rfl, q⟩ h1 h2)
  · exact wi_tup (we_var i hN hv hi rfl ⟨_, rfl, q⟩ h1 h2)
theorem vc_tupS {d : D} {l : List D} (hd : IsSeq d l) (q : Q (.tup l)) : VC c (.type "tuple") [d] Q := by
  rcases hd with rfl | rfl
  · exact vc_tupL q
  · exact vc_tupT q
theorem Rps.three {K : PySem.W.Frag} {Z : Sh} {vs : List V} {d1 d2 d3 : D} (r : Rps K Z vs [d1, d2, d3]) : ∃ v1 v2 v3, vs = [v1, v2, v3] ∧ Rp K Z v1 d1 ∧ Rp K Z v2 d2 ∧ Rp K Z v3 d3 := by
  cases r with
  | cons r1 r =>
    obtain ⟨v, u, rfl, a, b⟩ := r.two
    exact ⟨_, v, u, rfl, r1, a, b⟩
/-- a, b, z = x, y, w, three locals -/
theorem ws_par3 {T : Te} {z : Expr} (i j l : Nat) {x y w : Str} {px py pw pt : Pos} {kt k2 pt2} (hi : c.N[i]? = some x) (hj : c.N[j]? = some y) (hl : c.N[l]? = some w) (hij : i ≠ j) (hil : i ≠ l) (hjl : j ≠ l) (hx : c.sc.names.lookup x = some .local) (hy : c.sc.names.lookup y = some .local) (hz : c.sc.names.lookup w = some .local)
    (h : WA c [a, b, z] (fun ds => ∃ d1 d2 d3, ds = [d1, d2, d3] ∧ T.nx (((Δ.set i (some d1)).set j (some d2)).set l (some d3))) Δ)
    (hw : ∀ env : Env, env.scope = c.sc → swappedStores [.Tuple [.Name x px, .Name y py, .Name w pw] kt pt] (.Tuple [a, b, z] k2 pt2) env = pure (some [x, y, w])) (hh : c.hot = none := by rfl) : WS c (.Assign [.Tuple [.Name x px, .Name y py, .Name w pw] kt pt] (.Tuple [a, b, z] k2 pt2) pos) T Δ := fun X H0 Z0 hX σ H Z hS =>
  Ws.of (ps_par3 (hX.calm hh) (by rw [hX.N]; exact hX.nd) (by rw [hX.N]; exact hi) (by rw [hX.N]; exact hj) (by rw [hX.N]; exact hl) hij hil hjl (by rw [hX.sc]; exact hx) (by rw [hX.sc]; exact hy) (by rw [hX.sc]; exact hz) pa_we (hw _ hX.sc) rfl)
    ((h X H0 Z0 hX.toCtxOk σ H Z hS).mono fun vs H1 ⟨Z1, ds, s1, r1, d1, d2, d3, ed, q⟩ => by
      subst ed
      obtain ⟨v1, v2, v3, rfl, r1, r2, r3⟩ := r1.three
      exact ⟨v1, v2, v3, rfl, Z1, _, s1.le, (((hS.step s1).set i r1).set j r2).set l r3, q⟩)
end
end DL
end
section
set_option Elab.async false
set_option linter.all false
set_option maxRecDepth 100000
set_option maxHeartbeats 4000000
/-! DL24: the def that calls what it got, put together. -/
namespace DL
open PySem PySem.Spec PyProof.Rows L2
theorem caught_mk {P : Program} {w : World} {K : PySem.W.Frag} {mg : Str → Option Value} {base : Heap} {x a : Str} {st : Stmt} {f : Addr} {fd : FuncData} {Ng : List Str} {okX : XD → Prop} {told : XD → D} {none_ : D} (g : mg x = some (.ref f)) (F : Fun K x x st f fd) (b : Binds K fd [a] []) (S : FnScope Ng [a] (defScope st)) (h0 : Ng[0]? = some a) (hv : Vis (defScope st) a)
    (hG : ∀ (X : Cx) (q : Str) (cdv : Value), X.prog = P → X.w = w → X.K = K → X.mg = mg → X.base = base → X.A.guards = some [] → X.A.units + 200 < cLine → LamX.GivesTo X Ng x (defScope st) f cdv (defBody st) a q (TTd K okX told none_))
    (hd : (a == ("__debug__" : Str)) = false := by decide) (hc : (a == ("__classdict__" : Str)) = false := by decide) : Caught P w K mg base x okX told none_ := by
  obtain ⟨oc, od, kV, doc, pm, an, cdv, ct, osl, rfl, lk, hcd⟩ := F.ex
  exact ⟨f, a, _, _, _, _, _, _, _, _, _, _, _, _, Ng, g, F.kp, lk, hcd, b, S, h0, hv, ⟨hd, hc⟩, fun X q h1 h2 h3 h4 h5 h6 h7 => hG X q cdv h1 h2 h3 h4 h5 h6 h7⟩
/-- what is known of an own exception class, caught and asked for its fields -/
structure XK1 (K : PySem.W.Frag) (CS C : Addr) (fs : List Str) : Prop where
  ex : PySem.W.exmOne K (.ref C) (.ref CS) = some true
  ec : ExcC K C
  xf : XfC K C
  no : ∀ f ∈ fs, PySem.W.findIn K (.ref C) f = some none
section
variable {c : Cf} {Δ : Dl} {T : Te} {A : List Stmt} {pos pos2 p1 p2 p3 : Pos}
/-- if isinstance(e, C'): .. for the caught exception -/
theorem ws_ifE (i : Nat) {x y : Str} {a C dd C' : Addr} {ns : List Str} {l : List D} {k : Bool} (hm : c.mg "isinstance" = none) (hc : c.hot = some (a, C, dd)) (hN : c.N[i]? = some x) (hv : Vis c.sc x) (hi : Δ[i]? = some (some (.xc a C dd ns l))) (E : ExcC c.K C) (hg : Glo c y) (hy : c.mg y = some (.ref C')) (hk : PySem.W.kitOne c.K (.ref C) (.ref C') = some k)
    (h : if k = true then WB c A T Δ else T.nx Δ) (hgi : Glo c "isinstance") (hd : (x == ("__debug__" : Str)) = false := by decide) (hcd : (x == ("__classdict__" : Str)) = false := by decide) (hdy : (y == ("__debug__" : Str)) = false := by decide) :
    WS c (.If (.Call (.Name "isinstance" p1) [.Name x p2, .Name y p3] [] pos) A [] pos2) T Δ := by
  refine ws_if (wt_val (we_of_wo (wo_callB hgi hm boot_isinstance (wa_cons (we_var i hN hv hi rfl (wa_cons (we_cls hg hy (wa_nil (vc_isiE hc E hk ⟨_, rfl, ?_⟩)) hdy)) hd hcd)))))
  cases k with
  | true => rw [if_pos rfl] at h ⊢; exact h
  | false => rw [if_neg Bool.false_ne_true] at h ⊢; exact wb_nil h
end
end DL
end
section
set_option Elab.async false
set_option linter.all false
set_option maxRecDepth 100000
set_option maxHeartbeats 4000000
/-! DL25: own exception classes by a look at what the top has written. -/
namespace DL
open PySem PySem.Spec PyProof.Rows L2
def oexC (K : PySem.W.Frag) (C : Addr) : Bool := match K.lookup C with
  | some ⟨.type "type", _, .cls cd, sl⟩ => (match cd.mro, sl.toList with
    | .ref C' :: bm, [_, _, _, _, some (.builtin n), _] => C' == C && n == "ValueError.__new__" && !cd.hasDel && cd.hasDict && PySem.HandSPX.refsVE bm
    | _, _ => false)
  | _ => false
/-- all that is asked of an own exception class whose fields are fs -/
def xokB (K : PySem.W.Frag) (CS C : Addr) (fs : List Str) : Bool :=
  decide (PySem.W.findIn K (.ref C) "__setattr__" = some (some (.builtin "object.__setattr__"))) && (decide (PySem.W.subIn K (.ref C) (.type "BaseException") = some true) && (decide (PySem.W.typeIn K (.ref C) = some (.type "type")) && (PySem.W.keepIn K (.ref C) &&
  (decide (PySem.W.exmOne K (.ref C) (.ref CS) = some true) && (decide (PySem.W.findIn K (.ref C) "__getattribute__" = some (some (.builtin "BaseException.__getattribute__"))) && (decide (PySem.W.findIn K (.ref C) "__getattr__" = some none) && (PySem.W.hasDictIn K C &&
  (decide (PySem.W.findIn K (.ref C) "__class__" = some (some (.builtin "object.__class__"))) && (decide (PySem.W.specialIn K (.builtin "object.__class__") "__get__" = some (some (.builtin "getset_descriptor.__get__"))) && (decide (PySem.W.takesIn K (.builtin "object.__class__") = some true) && (decide (PySem.W.mroIn K C (.type "object") = some true) &&
  fs.all fun f => decide (PySem.W.findIn K (.ref C) f = some none))))))))))))
/-- which of these classes it is: it alone -/
def aloneB (K : PySem.W.Frag) (C : Addr) (cs : List Addr) : Bool := cs.all fun D => decide (PySem.W.kitOne K (.ref C) (.ref D) = some (C == D))
section
variable {K : PySem.W.Frag} {CS C : Addr} {fs : List Str}
theorem oexC_ok (h : oexC K C = true) : ∃ nm q N bs bm sn sub ab col dd k0 k1 k2 k3 k5, K.lookup C = some (excClassObj nm q C N bs bm true sn sub ab col dd k0 k1 k2 k3 k5 "ValueError.__new__") ∧ PySem.HandSPX.refsVE bm = true := by
  unfold oexC at h
  split at h
  · rename_i dd cd sl ho
    split at h
    · rename_i C' bm k0 k1 k2 k3 n k5 hm hs
      simp only [Bool.and_eq_true, beq_iff_eq, Bool.not_eq_true'] at h
      obtain ⟨⟨⟨⟨h1, h2⟩, h3⟩, h4⟩, h5⟩ := h
      obtain ⟨nm, bs, mro, N, qn, hd, sn, sub, ab, col, del_⟩ := cd
      obtain ⟨l⟩ := sl
      dsimp only at hm hs h3 h4
      subst h1 h2 h3 h4
      subst hm
      have hs : l = _ := hs
      subst hs
      exact ⟨_, _, _, _, _, _, _, _, _, _, _, _, _, _, _, ho, h5⟩
    · cases h
  · cases h
theorem oex_of (h1 : oexC K C = true) (h2 : xokB K CS C fs = true) : OexC K C ∧ XK1 K CS C fs := by
  unfold xokB at h2
  simp only [Bool.and_eq_true, decide_eq_true_eq, List.all_eq_true] at h2
  obtain ⟨a1, a2, a3, a4, a5, a6, a7, a8, a9, b1, b2, b3, b4⟩ := h2
  exact ⟨⟨oexC_ok h1, a1, a2, a3, a4⟩, ⟨a5, ⟨a6, a7, a2, a8, a9, b1, b2, b3⟩, ⟨a6, a7, a2, a8⟩, b4⟩⟩
theorem alone_of {cs : List Addr} (h : aloneB K C cs = true) {D : Addr} (hD : D ∈ cs) : PySem.W.kitOne K (.ref C) (.ref D) = some (C == D) := by
  unfold aloneB at h
  simp only [decide_eq_true_eq, List.all_eq_true] at h
  exact h D hD
/-- a def's code object, its table, known by a look -/
def lamB (K : PySem.W.Frag) (c P : Addr) : Bool := PySem.W.codeHdIn K c P && (match K.lookup P with
  | none => true
  | some _ => false) && (match K.lookup c with
  | some ⟨_, _, .fields vs, _⟩ => decide (vs[11]? = some (.ref P))
  | _ => false)
def tabA (K : PySem.W.Frag) (c : Addr) : Addr := match K.lookup c with
  | some ⟨_, _, Data.fields vs, _⟩ => (match (vs[11]? : Option Value) with
    | some (Value.ref P) => P
    | _ => 0)
  | _ => 0
theorem lam_of {c P : Addr} (h : lamB K c P = true) : PySem.W.codeHdIn K c P = true ∧ K.lookup P = none ∧ ∃ e dd vs sl, K.lookup c = some ⟨e, dd, .fields vs, sl⟩ ∧ vs[11]? = some (.ref P) := by
  unfold lamB at h
  simp only [Bool.and_eq_true] at h
  obtain ⟨⟨h1, h2⟩, h3⟩ := h
  refine ⟨h1, ?_, ?_⟩
  · cases q : K.lookup P with
    | none => rfl
    | some o => rw [q] at h2; cases h2
  · split at h3
    · rename_i e dd vs sl ho
      exact ⟨e, dd, vs, sl, ho, of_decide_eq_true h3⟩
    · cases h3
end
theorem def_mk {P : Program} {w : World} {K : PySem.W.Frag} {mg : Str → Option Value} {base : Heap} {j : Nat} {x qual : Str} {st : Stmt} {f : Addr} {fd : FuncData} {ps : List Str} {sp : DSp} (g : mg x = some (.ref f)) (F : Fun K x qual st f fd) (b : Binds K fd ps [])
    (ok : FnOk P w K mg base (L2.CX P w) j f fd ps (lift K sp)) : Def P w K mg base j x sp := ⟨f, fd, ps, g, F.kp, b, ok⟩
theorem defT_mk {P : Program} {w : World} {K : PySem.W.Frag} {mg : Str → Option Value} {base : Heap} {T : List (Addr × Str)} {j : Nat} {x : Str} {f : Addr} {fd : FuncData} {ps : List Str} {sp : DSp} (g : mg x = some (.ref f)) (kp : PySem.W.keepIn K (.ref f) = true) (b : Binds K fd ps [])
    (ok : FnT P w K mg base T j f fd ps sp) : DefT P w K mg base T j x sp := ⟨f, fd, ps, g, kp, b, ok⟩
theorem kit_self {K : PySem.W.Frag} {C : Addr} : PySem.W.kitOne K (.ref C) (.ref C) = some true := by
  unfold PySem.W.kitOne
  rw [if_pos (by simp)]
theorem funL_mk {K : PySem.W.Frag} {x qual : Str} {st : Stmt} {f c : Addr} {oc : Value} {od an : Option Addr} {osl : Array (Option Value)} {kV doc pm ct : Value} (l : K.lookup f = some ⟨oc, od, .func (PySem.W.fnOf x qual (defArgs st) (defBody st) (defScope st) .none kV doc pm an (.ref c) ct), osl⟩)
    (cc : PySem.W.codeIn K (.ref c) qual = true) : FunL K x qual st f (PySem.W.fnOf x qual (defArgs st) (defBody st) (defScope st) .none kV doc pm an (.ref c) ct) (.ref c) := ⟨oc, od, kV, doc, pm, an, ct, osl, rfl, l, cc⟩
/-- a law's end where all tables are those of the defs named -/
theorem topT_mk {l : PySem.W.OpenLaw} {w : World} {K : PySem.W.Frag} {k n : Nat} {x : Str} {mg : Str → Option Value} {fa : Addr} {h : Heap} {fd : FuncData} {sp : DSp} (cs : List (Addr × Addr × Str)) (ht : ∀ p ∈ cs, h.get? p.2.1 = some tab0 ∧ lamB K p.1 p.2.1 = true) (hu : (cs.map fun p => p.2.1).Nodup)
    (hb : ∀ (s : Shared) (u : Value), BindsTo s fd ⟨[u], []⟩ [(x, u)]) (hsp : ∀ ns : List Int, ns.length ≤ n → sp [.scr ns] (fun d => d = .bl true) fun _ => False)
    (F : ∀ base : Heap, K.In base → base.Ns mainGlobals mg → (∀ p ∈ cs, LamX.TabB base mg p.1 p.2.1) → FnT l.prog w K mg base (cs.map (·.2)) k fa fd [x] sp) : TopT l w K k n x mg fa h := by
  refine ⟨fd, cs, sp, fun p hp => ⟨(ht p hp).1, (lam_of (ht p hp).2).2.1, (lam_of (ht p hp).2).1⟩, fun p hp p' hp' e => ?_, hb, hsp, F⟩
  obtain ⟨i, hi, ei⟩ := List.getElem_of_mem hp
  obtain ⟨j, hj, ej⟩ := List.getElem_of_mem hp'
  have e1 : (cs.map fun p => p.2.1)[i]'(by rw [List.length_map]; exact hi) = p.2.1 := by rw [List.getElem_map, ei]
  have e2 : (cs.map fun p => p.2.1)[j]'(by rw [List.length_map]; exact hj) = p'.2.1 := by rw [List.getElem_map, ej]
  have hij : i = j := by
    refine Classical.byContradiction fun z => ?_
    have := (List.pairwise_iff_getElem.mp hu)
    rcases Nat.lt_or_gt_of_ne z with z | z
    · exact this i j (by rw [List.length_map]; exact hi) (by rw [List.length_map]; exact hj) z (by rw [e1, e2, e])
    · exact this j i (by rw [List.length_map]; exact hj) (by rw [List.length_map]; exact hi) z (by rw [e1, e2, e])
  subst hij
  rw [ei] at ej; rw [ej]
theorem tab_empty {q : Program} {K : PySem.W.Frag} {mg : Str → Option Value} {h : Heap} {nm : Str} {f c : Addr} {oc : Value} {od : Option Addr} {fd : FuncData} {osl : Array (Option Value)} (em : Empt q K mg h) (hr : ((recsOf q).any fun d => d.name == nm) = true) (g : mg nm = some (.ref f)) (l : K.lookup f = some ⟨oc, od, .func fd, osl⟩) (hc : fd.code = .ref c) (t : lamB K c (tabA K c) = true) :
    h.get? (tabA K c) = some tab0 := by
  obtain ⟨_, _, e, dd, vs, sl, lk, hv⟩ := lam_of t
  exact em nm f c _ _ fd e dd vs sl hr g l rfl hc lk hv
end DL
end
section
set_option Elab.async false
set_option linter.all false
set_option maxRecDepth 100000
set_option maxHeartbeats 4000000
/-! DL26: zip of a list and a tuple in any mix; gcd; abs; own == and !=; division by large numbers. -/
namespace DL
open PySem PySem.Spec PyProof.Rows L2
def SqK (k : Bool) (K : PySem.W.Frag) (H : Hp) (a : Addr) (xs : List V) : Prop := match k with
  | true => SqL K H a xs
  | false => SqT K H a xs
def itK (k : Bool) (h : Heap) (it a : Addr) (i : Nat) : Prop := match k with
  | true => h.IsListIter it a i
  | false => h.IsTupleIter it a i
def isK (k : Bool) (h : Heap) (a : Addr) (items : Array Value) : Prop := match k with
  | true => h.IsList a items
  | false => h.IsTuple a items
theorem drawsK {prog : Program} {w : World} {A : Around} (k : Bool) (hh : A.handled = none) (it a : Addr) (hne : a ≠ it) (items : Array Value) : Draws prog w A it [it, a] items.size (fun i v => items[i]? = some v) (fun i h => itK k h it a i ∧ isK k h a items) := by
  cases k with
  | true => exact Draws.list hh it a hne items
  | false => exact Draws.tuple hh it a hne items
theorem sqK_items {X : Cx} {pins : List (Addr × Obj)} {σ : L2.St} {H : Hp} {s : Shared} {a : Addr} {xs : List V} (k : Bool) (I : Inv X pins σ H s) (h : SqK k X.K H a xs) : ∃ its : List Value, Vals xs its ∧ isK k s.heap a its.toArray ∧ a < s.heap.objs.size := by
  cases k with
  | true =>
    obtain ⟨its, r, p, _⟩ := I.list h
    exact ⟨its, r, p.isList, p.lt⟩
  | false =>
    obtain ⟨its, r, p, _⟩ := I.tuple h
    exact ⟨its, r, p, by obtain ⟨_, q, _⟩ := p; exact Heap.lt_size q⟩
theorem sqK_inj {X : Cx} {pins : List (Addr × Obj)} {σ : L2.St} {H : Hp} {s : Shared} {a : Addr} {xs ys : List V} (k : Bool) (I : Inv X pins σ H s) (h : SqK k X.K H a xs) (h' : SqK k X.K H a ys) : xs = ys := by
  cases k with
  | true => exact I.list_inj h h'
  | false => exact I.tuple_inj h h'
theorem itK_obj {k : Bool} {h : Heap} {it a : Addr} {i : Nat} (st : itK k h it a i) : ∃ o, h.get? it = some o ∧ ∀ v, o.data ≠ .cell v := by
  cases k <;> (obtain ⟨o, e, _, d⟩ := st; exact ⟨o, e, fun v q => by rw [d] at q; cases q⟩)
theorem itK_at {k : Bool} {h h' : Heap} {it a : Addr} {i : Nat} (st : itK k h it a i) (e : ∀ o, h.get? it = some o → h'.get? it = some o) : itK k h' it a i := by
  cases k with
  | true => exact Heap.IsListIter.at st e
  | false => exact Heap.IsTupleIter.at st e
/-- what stands at a and b, item by item, in new pairs -/
def ItX (K : PySem.W.Frag) (k1 k2 : Bool) (n1 n2 : Nat) (a b : Addr) : It :=
  ⟨fun i H => ∃ (xs ys : List V) (x y : V), SqK k1 K H a xs ∧ SqK k2 K H b ys ∧ xs.length = n1 ∧ ys.length = n2 ∧ xs[i]? = some x ∧ ys[i]? = some y,
    fun i H v H' => ∃ T x y, v = .ref T ∧ H T = none ∧ H' = upd H T (.tup [x, y]) ∧ (∀ xs, SqK k1 K H a xs → xs[i]? = some x) ∧ ∀ ys, SqK k2 K H b ys → ys[i]? = some y,
    fun i H => ∃ xs ys : List V, SqK k1 K H a xs ∧ SqK k2 K H b ys ∧ xs.length = n1 ∧ ys.length = n2 ∧ (n1 ≤ i ∨ n2 ≤ i)⟩
theorem turn_zipX {P : Program} {w : World} {K : PySem.W.Frag} {elts : List Expr} {kk : Nat} {tpos : Pos} (k1 k2 : Bool) (n1 n2 : Nat) {a b z TI TO i1 i2 : Addr} (S : ZipSep2 z TI TO i1 i2 [i1, a] [i2, b]) (na : a ≠ i1) (nb : b ≠ i2) :
    Turn P w K (.Tuple elts kk tpos) (ItX K k1 k2 n1 n2 a b) [z, TI, TO, i1, i2] z (fun i h => IsZip h z TI TO .none ∧ IsTupOf2 h TI (.ref i1) (.ref i2) ∧ (∃ x y, IsTupOf2 h TO x y) ∧ itK k1 h i1 a i ∧ itK k2 h i2 b i ∧ i ≤ n1 ∧ i ≤ n2) where
  mem := by simp
  obj := fun i h st c hc => by
    obtain ⟨hz, hTI, ⟨x, y, hTO⟩, s1, s2, _⟩ := st
    obtain ⟨o1, e1, d1⟩ := itK_obj s1
    obtain ⟨o2, e2, d2⟩ := itK_obj s2
    simp only [List.mem_cons, List.not_mem_nil, or_false] at hc
    rcases hc with rfl | rfl | rfl | rfl | rfl
    · exact ⟨_, hz, fun v q => nomatch q⟩
    · exact ⟨_, hTI, fun v q => nomatch q⟩
    · exact ⟨_, hTO, fun v q => nomatch q⟩
    · exact ⟨o1, e1, d1⟩
    · exact ⟨o2, e2, d2⟩
  keep := fun i h h' st k => by
    obtain ⟨hz, hTI, ⟨x, y, hTO⟩, s1, s2, sl⟩ := st
    exact ⟨k z (by simp) _ hz, k TI (by simp) _ hTI, ⟨x, y, k TO (by simp) _ hTO⟩, itK_at s1 fun o => k i1 (by simp) o, itK_at s2 fun o => k i2 (by simp) o, sl⟩
  item := by
    intro X hP hw hK hc i pins s σ H E I hf st hg
    subst hP hw hK
    obtain ⟨hz, hTI, ⟨x0, y0, hTO⟩, s1, s2, _⟩ := st
    obtain ⟨xs, ys, x, y, qx, qy, m1, m2, ex, ey⟩ := hg
    obtain ⟨its, rv, p, _⟩ := sqK_items k1 I qx
    obtain ⟨its2, rv2, p2, _⟩ := sqK_items k2 I qy
    obtain ⟨u, hu, ru⟩ := rv.get ex
    obtain ⟨u2, hu2, ru2⟩ := rv2.get ey
    have lt1 : i < its.toArray.size := by rw [List.size_toArray]; exact (List.getElem?_eq_some_iff.mp hu).1
    have lt2 : i < its2.toArray.size := by rw [List.size_toArray]; exact (List.getElem?_eq_some_iff.mp hu2).1
    have zlt : z < s.heap.objs.size := Heap.lt_size hz
    refine wpAny_pyNext_zipD2_item S (drawsK (A := X.A.in1) k1 (I.ok.hd hc) i1 a na its.toArray) (drawsK (A := X.A.in1) k2 (I.ok.hd hc) i2 b nb its2.toArray) hz hTI hTO ⟨s1, p⟩ ⟨s2, p2⟩ lt1 lt2 fun x1 x2 h' tk P1 P2 z' TO' st1 st2 hT hsz hk => ?_
    have e1 : x1 = u := by
      have q : its[i]? = some x1 := by simpa using P1
      rw [hu] at q; cases q; rfl
    have e2 : x2 = u2 := by
      have q : its2[i]? = some x2 := by simpa using P2
      rw [hu2] at q; cases q; rfl
    subst e1 e2
    refine ⟨_, rfl, wpAny_letOwnedTupleGo_zip (s := { s with heap := h', toks := tk }) z' fun h'' z'' sb => ?_⟩
    have hT2 : h''.get? s.heap.objs.size = some { cls := .type "tuple", data := .seq #[x1, x2] } := (sb.2 _ (Nat.ne_of_gt zlt)).trans hT
    have new : ObjOk X.prog X.w (upd H s.heap.objs.size (.tup [x, y])) h'' s.heap.objs.size (.tup [x, y]) := by
      refine ⟨?_, [x1, x2], .cons ru (.cons ru2 .nil), ⟨_, hT2, rfl, _, rfl⟩⟩
      show 2 ≤ sizeLine
      decide
    have I1 : Inv X pins σ (upd H s.heap.objs.size (.tup [x, y])) { s with heap := h'', toks := tk } :=
      I.turnedNew (t' := tk) (ch := [z, TI, TO, i1, i2]) (fun c o nc q => (sb.2 c fun r => nc (by simp [r])).trans (hk c o (fun r => nc (by simp [r])) (fun r => nc (by simp [r])) (fun r => nc (by simp [r])) (fun r => nc (by simp [r])) q)) hf (Nat.le_refl _) new
    have stay : ∀ {c o}, c ≠ z → c ≠ TO → c ≠ i1 → c ≠ i2 → s.heap.get? c = some o → h''.get? c = some o := fun {c o} n1 n2 n3 n4 q => (sb.2 c n1).trans (hk c o n1 n2 n3 n4 q)
    refine ⟨.ref s.heap.objs.size, _, I1, rfl, ⟨_, x, y, rfl, I.hok.fresh (Nat.le_refl _), rfl, fun l hl => ?_, fun l hl => ?_⟩, ⟨z'', ?_, ⟨x1, x2, ?_⟩, ?_, ?_, ?_, ?_⟩, fun c hcm => ?_⟩
    · rw [sqK_inj k1 I hl qx]; exact ex
    · rw [sqK_inj k2 I hl qy]; exact ey
    · exact stay S.TIz S.TITO S.TIi1 S.TIi2 hTI
    · exact (sb.2 _ S.TOz).trans TO'
    · exact itK_at st1.1 fun o q => (sb.2 _ (Ne.symm S.zi1)).trans q
    · exact itK_at st2.1 fun o q => (sb.2 _ (Ne.symm S.zi2)).trans q
    · have := (List.getElem?_eq_some_iff.mp ex).1; omega
    · have := (List.getElem?_eq_some_iff.mp ey).1; omega
    · have hlt : c < s.heap.objs.size := by
        obtain ⟨o1, g1, _⟩ := itK_obj s1
        obtain ⟨o2, g2, _⟩ := itK_obj s2
        simp only [List.mem_cons, List.not_mem_nil, or_false] at hcm
        rcases hcm with rfl | rfl | rfl | rfl | rfl
        · exact zlt
        · exact Heap.lt_size hTI
        · exact Heap.lt_size hTO
        · exact Heap.lt_size g1
        · exact Heap.lt_size g2
      rw [upd_ne (Nat.ne_of_lt hlt)]
      exact (hf c hcm).1
  done := by
    intro X hP hw hK hc i pins s σ H E I hf st hg
    subst hP hw hK
    obtain ⟨hz, hTI, ⟨x0, y0, hTO⟩, s1, s2, l1, l2⟩ := st
    obtain ⟨xs, ys, qx, qy, m1, m2, hend⟩ := hg
    obtain ⟨its, rv, p, _⟩ := sqK_items k1 I qx
    obtain ⟨its2, rv2, p2, _⟩ := sqK_items k2 I qy
    have e1 := rv.length
    have e2 := rv2.length
    refine wpAny_pyNext_zipD2_end S (drawsK (A := X.A.in1) k1 (I.ok.hd hc) i1 a na its.toArray) (drawsK (A := X.A.in1) k2 (I.ok.hd hc) i2 b nb its2.toArray) hz hTI hTO ⟨s1, p⟩ ⟨s2, p2⟩ (by rw [List.size_toArray]; omega) (by rw [List.size_toArray]; omega) (by rw [List.size_toArray, List.size_toArray]; omega) fun h' tk hk => ⟨rfl, ?_⟩
    exact I.turnedL (t' := tk) (ch := [z, TI, TO, i1, i2]) (fun c o nc q => hk c o (fun r => nc (by simp [r])) (fun r => nc (by simp [r])) (fun r => nc (by simp [r])) (fun r => nc (by simp [r])) q) hf
  self := fun A i s Q E st h => wpAny_pyIter_zip st.1 h
def iZipX (K : PySem.W.Frag) (ta : TA) : TI := fun σ H R => ta σ H fun vs H1 => ∃ k1 k2 a b xs ys, vs = [.ref a, .ref b] ∧ SqK k1 K H1 a xs ∧ SqK k2 K H1 b ys ∧ R (ItX K k1 k2 xs.length ys.length a b) H1
theorem begK (k : Bool) (a : Addr) (items : Array Value) : ∃ o, Begins (.ref a) o (fun h => isK k h a items) ∧ ∀ h it, h.get? it = some o → itK k h it a 0 := by
  cases k with
  | true => exact ⟨_, begins_list a items, fun h it e => ⟨_, e, rfl, rfl⟩⟩
  | false => exact ⟨_, begins_tuple a items, fun h it e => ⟨_, e, rfl, rfl⟩⟩
theorem pi_zipX {X : Cx} {e e2 : Expr} {ta : TA} {p pos tpos : Pos} {elts : List Expr} {kk : Nat} (hg : Gl X "zip") (hm : X.mg "zip" = none) (ha : PA X [e, e2] ta)
    (hs : starEach [e, e2] X.env = (false, eval e X.env) :: starEach [e2] X.env := by rfl) (hpl : (backTo pos (starEach [e2] X.env)).any (·.1) = false := by rfl) :
    PI X (.Tuple elts kk tpos) (.Call (.Name "zip" p) [e, e2] [] pos) (iZipX X.K ta) := by
  refine ⟨fun pins s σ H R I h => ?_⟩
  refine Call_ (ld_blt I hg hm PyProof.Rows.boot_zip (PyProof.Rows.callWith_type1 (thn (ha.run pos pins s σ H _ I h) fun us s1 ⟨vs, H1, I1, r1, k1, k2, a, b, xs, ys, ex, qx, qy, q⟩ => ?_) hs hpl))
  subst ex
  cases r1 with
  | cons r rr =>
    cases rr with
    | cons r' rr =>
      cases rr; cases r; cases r'
      obtain ⟨its, rv, pp, la⟩ := sqK_items k1 I1 qx
      obtain ⟨its2, rv2, pp2, lb⟩ := sqK_items k2 I1 qy
      obtain ⟨o1, B1, b1⟩ := begK k1 a its.toArray
      obtain ⟨o2, B2, b2⟩ := begK k2 b its2.toArray
      refine zip_begins2 B1 B2 pp pp2 fun h' hz hTI hTO g1 g2 hsz hk => wpAny_pyIter_zip hz ?_
      have I2 : Inv X pins σ H1 { s1 with heap := h' } := I1.kept (t' := s1.toks) hk
      have S : ZipSep2 (s1.heap.objs.size + 4) (s1.heap.objs.size + 2) (s1.heap.objs.size + 3) s1.heap.objs.size (s1.heap.objs.size + 1) [s1.heap.objs.size, a] [s1.heap.objs.size + 1, b] := zip_sep2 (fun c hc => by rw [List.mem_singleton] at hc; subst hc; exact la) (fun c hc => by rw [List.mem_singleton] at hc; subst hc; exact lb)
      refine ⟨s1.heap.objs.size + 4, [s1.heap.objs.size + 4, s1.heap.objs.size + 2, s1.heap.objs.size + 3, s1.heap.objs.size, s1.heap.objs.size + 1], _, _, H1, rfl, I2, turn_zipX k1 k2 xs.length ys.length S (Nat.ne_of_lt la) (Nat.ne_of_lt (Nat.lt_succ_of_lt lb)), ⟨hz, hTI, ⟨_, _, hTO⟩, b1 _ _ g1, b2 _ _ g2, Nat.zero_le _, Nat.zero_le _⟩, fun c hc => ?_, q⟩
      have hle : s1.heap.objs.size ≤ c := by
        simp only [List.mem_cons, List.not_mem_nil, or_false] at hc
        rcases hc with rfl | rfl | rfl | rfl | rfl <;> omega
      exact I1.fpOk hle (I1.hok.fresh hle)
section
variable {c : Cf} {e a b : Expr} {es : List Expr} {Q : D → Prop} {Δ : Dl} {pos : Pos}
theorem seqK {K : PySem.W.Frag} {Z : Sh} {H : Hp} {v : V} {x : D} {xs : List D} (ok : OkZ H Z) (hx : IsSeq x xs) (r : Rp K Z v x) : ∃ k p vs, v = .ref p ∧ Rps K Z vs xs ∧ ∀ H' Z', Le Z Z' → OkZ H' Z' → SqK k K H' p vs := by
  rcases hx with rfl | rfl
  · obtain ⟨p, vs, rfl, hp, zp, rr⟩ := r.lst_inv ok
    exact ⟨true, p, vs, rfl, rr, fun H' Z' le ok' => .of (fz_at le ok' zp)⟩
  · obtain ⟨p, vs, rfl, hp, zp, rr⟩ := r.tup_inv ok
    exact ⟨false, p, vs, rfl, rr, fun H' Z' le ok' => .of (fz_at le ok' zp)⟩
/-- zip of two sequences, lists or tuples -/
theorem wi_zipX {ts : List Expr} {kk : Nat} {tpos p : Pos} {Q : List D → Prop} (hg : Glo c "zip") (hm : c.mg "zip" = none)
    (h : WE c a (fun x => WE c b (fun y => ∃ xs ys, IsSeq x xs ∧ IsSeq y ys ∧ Q (pairs xs ys)) Δ) Δ) (hs : isStar a = false := by rfl) (hs2 : isStar b = false := by rfl) :
    WI c (.Tuple ts kk tpos) (.Call (.Name "zip" p) [a, b] [] pos) Q Δ := fun X H0 Z0 hX σ H Z hS => by
  refine Wi.of (pi_zipX (hX.gl hg) (by rw [hX.mg]; exact hm) (pa_cons pe_we (pa_cons pe_we pa_nil (star1 hs2)) (star1 hs)) (star1 hs) (by rw [star1 hs2]; rfl)) ?_
  refine (h X H0 Z0 hX σ H Z hS).mono fun v H1 ⟨Z1, x, s1, r1, q1⟩ => ?_
  refine (q1 X H0 Z0 hX σ H1 Z1 (hS.step s1)).mono fun u H2 ⟨Z2, y, s2, r2, xs, ys, hx, hy, q⟩ => ?_
  obtain ⟨k1, pa, vs, rfl, rr1, q1⟩ := seqK s2.ok hx (r1.le s2.le)
  obtain ⟨k2, pb, ws, rfl, rr2, q2⟩ := seqK s2.ok hy r2
  rw [hX.K]
  refine ⟨k1, k2, pa, pb, vs, ws, rfl, q1 H2 Z2 (.refl _) s2.ok, q2 H2 Z2 (.refl _) s2.ok, Z2, pairs xs ys, s1.trans s2, fun H' Z' le ok i => ⟨fun d hd => ?_, fun hn => ?_⟩, q⟩
  · obtain ⟨x, y, hx, hy, rfl⟩ := pairs_get hd
    obtain ⟨vx, ex, rx⟩ := rr1.get hx
    obtain ⟨vy, ey, ry⟩ := rr2.get hy
    refine ⟨⟨vs, ws, vx, vy, q1 H' Z' le ok, q2 H' Z' le ok, rfl, rfl, ex, ey⟩, fun v H'' ⟨T, x', y', ev, hT, eH, g1, g2⟩ => ?_⟩
    subst ev eH
    have e1 := g1 vs (q1 H' Z' le ok)
    have e2 := g2 ws (q2 H' Z' le ok)
    rw [ex] at e1; rw [ey] at e2
    cases e1; cases e2
    have s3 : Stp H' Z' (upd H' T (.tup [vx, vy])) (shr Z' T (fz (.tup [vx, vy]))) := .newS ok hT rfl
    exact ⟨_, s3, .tup shr_same (.cons ((rx.le le).le s3.le) (.cons ((ry.le le).le s3.le) .nil))⟩
  · refine ⟨vs, ws, q1 H' Z' le ok, q2 H' Z' le ok, rfl, rfl, ?_⟩
    rw [rr1.length, rr2.length]; exact pairs_none hn
/-- gcd(a, b), from math -/
theorem we_gcd {x : Str} {p : Pos} (hg : Glo c x) (hm : c.mg x = some (.builtin "math.gcd")) (h : WE c a (fun d => WE c b (fun e => ∃ i j : Int, d = .int i ∧ e = .int j ∧ Q (.int ((Int.gcd i j : Nat) : Int))) Δ) Δ) (hs : isStar a = false := by rfl) (hs2 : isStar b = false := by rfl) (hdb : (x == ("__debug__" : Str)) = false := by decide) :
    WE c (.Call (.Name x p) [a, b] [] pos) Q Δ := fun X H0 Z0 hX σ H Z hS => by
  refine We.of (pe_callBfun cr_gcd (hX.gl hg) (by rw [hX.mg]; exact hm) (pa_cons pe_we (pa_cons pe_we pa_nil (star1 hs2)) (star1 hs)) hdb (star1 hs) (by rw [star1 hs2]; rfl)) ?_
  refine (h X H0 Z0 hX σ H Z hS).mono fun v H1 ⟨Z1, x, s1, r1, q1⟩ => ?_
  refine (q1 X H0 Z0 hX σ H1 Z1 (hS.step s1)).mono fun u H2 ⟨Z2, y, s2, r2, i, j, ex, ey, q⟩ => ?_
  subst ex ey
  cases r1; cases r2
  exact ⟨i, j, rfl, Z2, _, s1.trans s2, .int, q⟩
theorem vc_abs {i : Int} (q : Q (.int (if i < 0 then -i else i))) : VC c (.builtin "abs") [.int i] Q := fun X _ _ hX H Z vs ok r => by
  obtain ⟨v, rfl, r1⟩ := r.one
  cases r1
  exact ⟨_, call_abs, i, rfl, opost ok .int q⟩
theorem log2_200 {j : Int} (h0 : 0 < j) (h : j < 2 ^ 200) : j.natAbs.log2 < 9000 := by
  have h2 : j.natAbs < 2 ^ 200 := by
    have e : ((j.natAbs : Nat) : Int) < ((2 ^ 200 : Nat) : Int) := by
      rw [Int.natAbs_of_nonneg (Int.le_of_lt h0)]
      have : ((2 ^ 200 : Nat) : Int) = 2 ^ 200 := by norm_cast
      rw [this]; exact h
    exact_mod_cast e
  have := (Nat.log2_lt (n := j.natAbs) (k := 200) (by omega)).mpr h2
  omega
/-- // by a large number -/
theorem vo_fdivW {i j : Int} (h0 : 0 < j) (h : j < 2 ^ 200) (q : Q (.int (i / j))) : VO c (binaryOp .FloorDiv) (.int i) (.int j) Q := vo_i (C := CDivW) (g := fun i j => i / j) (fun _ => op_fdivW) ⟨h0, log2_200 h0 h⟩ q
/-- a method of the class at C, by its name -/
structure MetD (P : Program) (w : World) (K : PySem.W.Frag) (mg : Str → Option Value) (base : Heap) (j : Nat) (C : Addr) (nm : Str) (sp : DSp) : Prop where
  ex : ∃ f fd ps, PySem.W.findIn K (.ref C) nm = some (some (.ref f)) ∧ PySem.W.isFn K (.ref f) = true ∧ Binds K fd ps [] ∧ FnOk P w K mg base (L2.CX P w) j f fd ps (lift K sp)
/-- x == y, x != y: x an instance of a class whose def for it is known -/
theorem vo_own {op : CmpOp} {j : Nat} {C C' : Addr} {ns ns' : List Str} {l l' : List D} {sp : DSp} (M : MetD c.P c.w c.K c.mg c.base j C (cmpInfo op).2.1 sp) (hj : j ≤ c.k) (hn : PySem.W.notFirst c.K C (.ref C') = true) (h : sp [.ins C ns l, .ins C' ns' l'] (fun d => (∃ k, d = .bl k) ∧ Q d) fun _ => False)
    (hop : ∀ a b, compareOp op a b = richCompare op a b := by intro _ _; rfl) (hh : c.hot = none := by rfl) : VO c (compareOp op) (.ins C ns l) (.ins C' ns' l') Q := fun X H0 Z0 hX H Z v u ok r1 r2 => by
  obtain ⟨f, fd, ps, hs, hf, hb, FF⟩ := M.ex
  obtain ⟨p, dx, vs, rfl, hp, _, _⟩ := r1.ins_inv ok
  obtain ⟨q, dy, ws, rfl, hq, _, _⟩ := r2.ins_inv ok
  refine ⟨fun y z H' Q' => y = .ref p ∧ z = .ref q ∧ H' = H ∧ ∀ v H2, oPost c.K H Z Q v H2 → Q' v H2, ?_, rfl, rfl, rfl, fun _ _ h => h⟩
  intro pins s σ H' y z vv uu Q' I ry rz ⟨e1, e2, e3, k⟩
  subst e1 e2 e3
  cases (show vv = Value.ref p from ry)
  cases (show uu = Value.ref q from rz)
  have rm : Room j X.A := (hX.room hh).mono hj
  obtain ⟨mA, J, _⟩ := ins_get I.hok hp
  obtain ⟨mB, J', _⟩ := ins_get I.hok hq
  obtain ⟨od, J, _⟩ := J.look
  obtain ⟨od', J', _⟩ := J'.look
  obtain ⟨m, hF⟩ := I.fr
  rw [hop]
  refine PySem.W.cmp_K (op := op) (tb := .ref C') rm.units0 hF I.ok.mod.kin J J'.type (by rw [hX.K]; exact hn) (by rw [hX.K]; exact hs) (by rw [hX.K]; exact hf) ?_
  have hsp : lift c.K sp [.ref p, .ref q] H' (fun v H2 => (∃ k, v = .bl k) ∧ oPost c.K H' Z Q v H2) (fun _ _ _ => False) := by
    refine ⟨Z, _, _, _, ok, .cons r1 (.cons r2 .nil), h, fun d ⟨⟨k, ed⟩, qd⟩ v H2 Z2 st rr => ?_, fun _ z => z.elim⟩
    subst ed
    rcases rr with rr | ⟨_, _, _, _, _, _, rr⟩
    · cases rr; exact ⟨⟨k, rfl⟩, Z2, _, st, .inl .bl, qd⟩
    · cases rr
  have FX := hX.fnOk FF
  have hl := FX.len _ _ _ _ hsp
  have hbb := hb s [.ref p, .ref q] (by have := I.kIn; rw [hX.K] at this; exact this) (by simpa using hl)
  rw [List.append_nil] at hbb
  refine wpAny_call (codeAny_mono (FX.run X.A X.stack s H' ⟨[.ref p, .ref q], []⟩ [.ref p, .ref q] [.ref p, .ref q] _ _ rm I.env0 hbb (.cons rfl (.cons rfl .nil)) hsp) fun r s' hq' => ?_)
  match r, hq' with
  | .error y, hq' => obtain ⟨_, _, _, _, _, _, _, _, _, _, _, _, z⟩ := hq'; exact z.elim
  | .ok .next, hq' => exact False.elim hq'
  | .ok .brk, hq' => exact False.elim hq'
  | .ok .cont, hq' => exact False.elim hq'
  | .ok (.ret w), hq' =>
    obtain ⟨z, H2, I2, rz, ⟨kk, ek⟩, ez⟩ := I.after hq'
    subst ek
    cases rz
    exact ⟨.bl kk, H2, I2, rfl, k _ _ ez⟩
end
end DL
end
section
set_option Elab.async false
set_option linter.all false
set_option maxRecDepth 100000
set_option maxHeartbeats 4000000
/-! DL27: comprehensions of two clauses. -/
namespace DL
open PySem PySem.Spec PyProof.Rows L2
section
variable {c : Cf} {e a b : Expr} {es : List Expr} {Q : D → Prop} {Δ : Dl} {pos : Pos} {js : List Nat} {T : Te}
def Bi (X : Cx) (scope : Scope) (tg iter : Expr) : TI := fun σ H R => ∀ s H' C cl fp, Wi (X.blk s H' scope (compEnvC scope cl C X.env) fp) tg iter σ H R
theorem pi_b {X : Cx} {scope : Scope} {tg iter : Expr} (s : Shared) (H' : Hp) (C : Addr) (cl : List (Str × Addr)) (fp : List Addr) : PI (X.blk s H' scope (compEnvC scope cl C X.env) fp) tg iter (Bi X scope tg iter) := ⟨fun pins s' σ' H2 R I k => k s H' C cl fp pins s' I⟩
/-- two clauses: I over what the first gives, I1 over what the second gives behind it -/
def Lc2 (c : Cf) (elt tg iter tg1 iter1 : Expr) (ifs ifs1 : List Expr) (scope : Scope) (own : List (Str × Nat)) (vs1 : List Nat) (Q : D → Prop) (Δ : Dl) : Prop :=
  WI c tg iter (fun items => ∃ I : List D → List D → Prop, I [] [] ∧
      (∀ pre x post acc, items = pre ++ x :: post → I pre acc → WG (c.blk scope) (own.map (·.2)) tg x (fun Δ2 => WTs (c.blk scope) ifs (fun k => if k = true then
          WI (c.blk scope) tg1 iter1 (fun items1 => ∃ I1 : List D → List D → Prop, I1 [] acc ∧
            (∀ pre1 y post1 acc1, items1 = pre1 ++ y :: post1 → I1 pre1 acc1 → WG (c.blk scope) vs1 tg1 y (fun Δ3 => WTs (c.blk scope) ifs1 (fun k => if k = true then WE (c.blk scope) elt (fun z => acc1.length < sizeLine ∧ I1 (pre1 ++ [y]) (acc1 ++ [z])) Δ3 else I1 (pre1 ++ [y]) acc1) Δ3) (wipeD Δ2 vs1)) ∧
            ∀ acc1, I1 items1 acc1 → I (pre ++ [x]) acc1) Δ2
        else I (pre ++ [x]) acc) Δ2) (wipeD Δ (own.map (·.2)))) ∧
      ∀ acc, I items acc → Q (.ol acc)) Δ
theorem item_split {items : List D} {i : Nat} {x : D} (e : items[i]? = some x) : items = items.take i ++ x :: items.drop (i + 1) ∧ items.take (i + 1) = items.take i ++ [x] ∧ i < items.length := by
  have hlt : i < items.length := (List.getElem?_eq_some_iff.mp e).1
  have h2 := (List.getElem?_eq_some_iff.mp e).2
  exact ⟨by rw [← h2, ← List.drop_eq_getElem_cons hlt, List.take_append_drop], by rw [List.take_succ_eq_append_getElem hlt, h2], hlt⟩
/-- the list that is made, hidden, with what it holds -/
def Mk (K : PySem.W.Frag) (Dl : Addr) (H1 : Hp) (Z1 : Sh) (H' : Hp) (Z' : Sh) (vs : List V) (acc : List D) : Prop := Stp H1 Z1 H' Z' ∧ Z' Dl = none ∧ H' Dl = some (.lst vs) ∧ Rps K Z' vs acc
theorem Mk.step {K : PySem.W.Frag} {Dl : Addr} {H1 H' H2 : Hp} {Z1 Z' Z2 : Sh} {vs : List V} {acc : List D} (m : Mk K Dl H1 Z1 H' Z' vs acc) (s : Stp H' Z' H2 Z2) : Mk K Dl H1 Z1 H2 Z2 vs acc := by
  obtain ⟨st, zD, hD, rr⟩ := m
  have k := s.keep Dl _ hD zD ⟨fun ps e => (nomatch e), fun c q e => (nomatch (show _ = HO.ext _ from e)), fun vs e => (nomatch e)⟩
  exact ⟨st.trans s, k.2, k.1, rr.le s.le⟩
theorem Mk.snoc {K : PySem.W.Frag} {Dl : Addr} {H1 H' : Hp} {Z1 Z' : Sh} {vs : List V} {acc : List D} {w : V} {y : D} (m : Mk K Dl H1 Z1 H' Z' vs acc) (hD : H1 Dl = none) (r : Rp K Z' w y) : Mk K Dl H1 Z1 (upd H' Dl (.lst (vs ++ [w]))) Z' (vs ++ [w]) (acc ++ [y]) :=
  ⟨m.1.own (.of hD) m.2.1, m.2.1, upd_same, m.2.2.2.append (.cons r .nil)⟩
theorem upd_at {H : Hp} {a : Addr} {o : HO} (h : H a = some o) : upd H a o = H := by
  funext b
  by_cases e : b = a
  · subst e; rw [upd_same, h]
  · rw [upd_ne e]
theorem upd_upd {H : Hp} {a : Addr} {o o' : HO} : upd (upd H a o) a o' = upd H a o' := by
  funext b
  by_cases e : b = a
  · subst e; rw [upd_same, upd_same]
  · rw [upd_ne e, upd_ne e, upd_ne e]
theorem okz_upd {H : Hp} {Z : Sh} {p : Addr} {o : HO} (ok : OkZ H Z) (z : Z p = none) : OkZ (upd H p o) Z :=
  ⟨fun a φ q => by
    have ha : a ≠ p := fun e => by rw [e, z] at q; cases q
    rw [upd_ne ha]; exact ok a φ q, fun a φ vs q e => by
    have ha : a ≠ p := fun e => by rw [e, z] at q; cases q
    rw [upd_ne ha] at e; exact ok.tp a φ vs q e, fun a sp q => (ok.kp a sp q).le (Le.refl _) fun o e _ => by
    have ha : a ≠ p := fun e => by rw [e, z] at q; cases q
    rw [upd_ne ha]; exact e⟩
/-- a thing that is hidden from the slots is laid into their base -/
theorem Slots.pin {K : PySem.W.Frag} {H0 : Hp} {Z0 : Sh} {σ : L2.St} {H : Hp} {Z : Sh} {Dl : Addr} {o : HO} (h : Slots K H0 Z0 σ H Z Δ) (nt : ∀ ps, o ≠ .tbl ps) (zD : Z Dl = none)
    (no : ∀ (i : Nat) (d : D) (l : Addr), Δ[i]? = some (some d) → d.own = true → σ[i]? = some (some (.ref l)) → l ≠ Dl) : Slots K (upd H0 Dl o) Z0 σ (upd H Dl o) Z Δ := by
  have z0 : Z0 Dl = none := by
    cases q : Z0 Dl with
    | none => rfl
    | some φ => rw [h.stp.le _ _ q] at zD; cases zD
  refine ⟨okz_upd h.ok0 z0, ⟨h.stp.le, okz_upd h.stp.ok zD, fun a u e z n => ?_, fun P q t => ?_, h.stp.tb, fun a u e n => ?_⟩, h.len, fun i d e => ?_, h.sep⟩
  · by_cases ha : a = Dl
    · subst ha; rw [upd_same] at e; cases e; exact ⟨upd_same, zD⟩
    · rw [upd_ne ha] at e ⊢; exact h.stp.keep a u e z n
  · have hP : P ≠ Dl := fun e => by have := t.2.1; rw [e, z0] at this; cases this
    exact (h.stp.tab P q (t.at_ (upd_ne hP).symm)).at_ (upd_ne hP)
  · by_cases ha : a = Dl
    · subst ha; exact ⟨o, upd_same, nt⟩
    · rw [upd_ne ha] at e ⊢; exact h.stp.stays a u e n
  · obtain ⟨v, e1, r⟩ := h.at_ i d e
    refine ⟨v, e1, ?_⟩
    rcases r with r | ⟨l, o', e2, h0, z, hl, r⟩
    · exact .inl r
    · subst e2
      have hl' : l ≠ Dl := no i d l e r.own e1
      exact .inr ⟨l, o', rfl, fun u q => h0 u (by rw [upd_ne hl'] at q; exact q), z, by rw [upd_ne hl']; exact hl, r⟩
theorem Slots.out {K : PySem.W.Frag} {H0 : Hp} {Z0 : Sh} {σ : L2.St} {H : Hp} {Z : Sh} {Dl : Addr} {o : HO} (h : Slots K (upd H0 Dl o) Z0 σ H Z Δ) (nt : ∀ ps, o ≠ .tbl ps) (i : Nat) (d : D) (l : Addr) (e : Δ[i]? = some (some d)) (ho : d.own = true) (el : σ[i]? = some (some (.ref l))) : l ≠ Dl := fun z => by
  obtain ⟨l', o', e1, h0, _⟩ := h.getO e ho
  rw [el] at e1; cases e1
  subst z
  obtain ⟨ps, w⟩ := h0 o upd_same
  exact nt ps w
theorem CtxOk.blkP {H0 Z0 X} (hX : CtxOk c H0 Z0 X) (hh : c.hot = none) {Dl : Addr} {o : HO} (z0 : Z0 Dl = none) {scope : Scope} (s : Shared) (H : Hp) (C : Addr) (cl : List (Str × Addr)) (fp : List Addr) : CtxOk (c.blk scope) (upd H0 Dl o) Z0 (X.blk s H scope (compEnvC scope cl C X.env) fp) :=
  let B := hX.blk hh (scope := scope) s H C cl fp
  { B with
    lm := fun L e => by
      obtain ⟨a1, a2, a3⟩ := B.lm L e
      refine ⟨a1, fun n => ⟨fun p hp => ?_, (a2 n).2⟩, a3⟩
      have t := (a2 n).1 p hp
      exact t.at_ (upd_ne fun e => by have := t.2.1; rw [e, z0] at this; cases this)
    tk := takes0.imp fun _ _ _ _ ⟨_, _, _, _, q⟩ => q.elim }
theorem lc2_run {elt tg iter tg1 iter1 : Expr} {ifs ifs1 : List Expr} {scope : Scope} {own : List (Str × Nat)} {vs1 : List Nat} (h : Lc2 c elt tg iter tg1 iter1 ifs ifs1 scope own vs1 Q Δ)
    (hh : c.hot = none) {X H0 Z0} (hX : CtxOk c H0 Z0 X) {σ : L2.St} {H : Hp} {Z : Sh} (hS : Slots c.K H0 Z0 σ H Z Δ) :
    tLc2 (Wi X tg iter) (Bg X scope tg) (Bt X scope ifs) (Bi X scope tg1 iter1) (Bg X scope tg1) (Bt X scope ifs1) (Be X scope elt) (own.map (·.2)) vs1 σ H (oPost c.K H Z Q) := by
  refine (h X H0 Z0 hX σ H Z hS).mono fun J H1 ⟨Z1, items, s1, yl, I, i0, turn, fin⟩ => fun Dl hD => ?_
  have nl : ∀ (vs : List V) (ps : Array Value), (HO.lst vs) ≠ .tbl ps := fun _ _ e => by cases e
  have hS1 := hS.step s1
  have no1 : ∀ (i : Nat) (d : D) (l : Addr), Δ[i]? = some (some d) → d.own = true → σ[i]? = some (some (.ref l)) → l ≠ Dl := fun i d l e ho el z => by
    obtain ⟨l', o', e1, _, _, hl, _⟩ := hS1.getO e ho
    rw [el] at e1; cases e1
    rw [z, hD] at hl; cases hl
  have z0 : Z0 Dl = none := by
    cases q : Z0 Dl with
    | none => rfl
    | some φ => have := hS1.stp.le _ _ q; rw [s1.ok.none hD] at this; cases this
  refine ⟨fun i m H' => m = items.length - i ∧ i ≤ items.length ∧ ∃ Z' vs acc, Mk c.K Dl H1 Z1 H' Z' vs acc ∧ I (items.take i) acc, ⟨items.length, by simp, Nat.zero_le _, Z1, [], [], ⟨.new s1.ok hD, s1.ok.none hD, upd_same, .nil⟩, i0⟩, ?_⟩
  rintro i m H' ⟨rfl, hi, Z', vs, acc, mk, ii⟩
  cases e : items[i]? with
  | none =>
    have hi' : i = items.length := by have := List.getElem?_eq_none_iff.mp e; omega
    subst hi'
    rw [List.take_length] at ii
    obtain ⟨st, zD, hD', rr⟩ := mk
    refine .inl ⟨(yl H' Z' st.le st.ok _).2 e, ?_⟩
    exact oPost.mono hS.ok s1 ⟨Z', .ol acc, st, .inr ⟨Dl, _, rfl, .of hD, zD, hD', .lst rr⟩, fin acc ii⟩
  | some x =>
    obtain ⟨go, yld⟩ := (yl H' Z' mk.1.le mk.1.ok i).1 x e
    obtain ⟨split, snoc, hlt⟩ := item_split e
    refine .inr ⟨go, fun H2 => ∃ Z' vs acc, Mk c.K Dl H1 Z1 H2 Z' vs acc ∧ I (items.take (i + 1)) acc, fun H2 q => ⟨items.length - (i + 1), by omega, rfl, hlt, q⟩, fun v H2 y => ?_⟩
    obtain ⟨Z2, s2, rx⟩ := yld v H2 y
    have hSb : Slots c.K (upd H0 Dl (.lst vs)) Z0 σ H' Z' Δ := by
      have := (hS1.step mk.1).pin (o := .lst vs) (nl vs) mk.2.1 no1
      rwa [upd_at mk.2.2.1] at this
    have hS2 := (hSb.step s2).wipe (own.map (·.2))
    have tn := turn (items.take i) x (items.drop (i + 1)) acc split ii
    intro s0 Hb C cl fp
    refine (tn _ _ Z0 (hX.blkP hh z0 s0 Hb C cl fp) _ H2 Z2 v hS2 rx).mono fun σ3 H3 ⟨Z3, Δ3, s3, hS3, ks, q3⟩ => ⟨?_, ?_⟩
    · have e1 := wipe_same (σ := wipe σ (own.map (·.2))) (τ := σ3) ks.1 ks.2
      rw [e1]
      exact wipe_same (wipe_length _ _) fun i hi => wipe_get hi
    intro s0 Hb C cl fp
    refine (wts_run q3 (hX.blkP hh z0 s0 Hb C cl fp) hS3).mono fun k H4 ⟨Z4, s4, q4⟩ => ?_
    have mk4 := mk.step ((s2.trans s3).trans s4)
    cases k with
    | false =>
      rw [if_neg Bool.false_ne_true] at q4 ⊢
      exact ⟨Z4, vs, acc, mk4, by rw [snoc]; exact q4⟩
    | true =>
      rw [if_pos rfl] at q4 ⊢
      intro s0 Hb C cl fp
      refine (q4 _ _ Z0 (hX.blkP hh z0 s0 Hb C cl fp) _ H4 Z4 (hS3.step s4)).mono fun J1 H5 ⟨Z5, items1, s5, yl1, I1, j0, turn1, fin1⟩ => ?_
      refine ⟨fun j m H' => m = items1.length - j ∧ j ≤ items1.length ∧ ∃ Z' ws acc1, Le Z5 Z' ∧ Mk c.K Dl H1 Z1 H' Z' ws acc1 ∧ Slots c.K (upd H0 Dl (.lst ws)) Z0 σ3 H' Z' Δ3 ∧ I1 (items1.take j) acc1,
        ⟨items1.length, by simp, Nat.zero_le _, Z5, vs, acc, Le.refl _, mk4.step s5, (hS3.step s4).step s5, j0⟩, ?_⟩
      rintro j m Hc ⟨rfl, hj, Zc, ws, acc1, lec, mkc, hSc, jj⟩
      cases e1 : items1[j]? with
      | none =>
        have hj' : j = items1.length := by have := List.getElem?_eq_none_iff.mp e1; omega
        subst hj'
        rw [List.take_length] at jj
        exact .inl ⟨(yl1 Hc Zc lec mkc.1.ok _).2 e1, Zc, ws, acc1, mkc, by rw [snoc]; exact fin1 acc1 jj⟩
      | some y1 =>
        obtain ⟨go1, yld1⟩ := (yl1 Hc Zc lec mkc.1.ok j).1 y1 e1
        obtain ⟨split1, snoc1, hlt1⟩ := item_split e1
        refine .inr ⟨go1, fun H2 => ∃ Z' ws acc1, Le Z5 Z' ∧ Mk c.K Dl H1 Z1 H2 Z' ws acc1 ∧ Slots c.K (upd H0 Dl (.lst ws)) Z0 σ3 H2 Z' Δ3 ∧ I1 (items1.take (j + 1)) acc1, fun H2 q => ⟨items1.length - (j + 1), by omega, rfl, hlt1, q⟩, fun v1 Hd y2 => ?_⟩
        obtain ⟨Zd, sd, ry⟩ := yld1 v1 Hd y2
        have tn1 := turn1 (items1.take j) y1 (items1.drop (j + 1)) acc1 split1 jj
        intro s0 Hb C cl fp
        refine (tn1 _ _ Z0 (hX.blkP hh z0 s0 Hb C cl fp) _ Hd Zd v1 ((hSc.step sd).wipe vs1) ry).mono fun σ6 H6 ⟨Z6, Δ6, s6, hS6, ks6, q6⟩ => ⟨?_, ?_⟩
        · have e2 := wipe_same (σ := wipe σ3 vs1) (τ := σ6) ks6.1 ks6.2
          rw [e2]
          exact wipe_same (wipe_length _ _) fun i hi => wipe_get hi
        intro s0 Hb C cl fp
        refine (wts_run q6 (hX.blkP hh z0 s0 Hb C cl fp) hS6).mono fun k H7 ⟨Z7, s7, q7⟩ => ?_
        have sdc := (sd.trans s6).trans s7
        cases k with
        | false =>
          rw [if_neg Bool.false_ne_true] at q7 ⊢
          exact ⟨Z7, ws, acc1, lec.trans sdc.le, mkc.step sdc, hSc.step sdc, by rw [snoc1]; exact q7⟩
        | true =>
          rw [if_pos rfl] at q7 ⊢
          intro s0 Hb C cl fp
          refine (q7 _ _ Z0 (hX.blkP hh z0 s0 Hb C cl fp) _ H7 Z7 (hS6.step s7)).mono fun w H8 ⟨Z8, z, s8, rz, hzl, q8⟩ => ?_
          have s18 := sdc.trans s8
          have mk8 := mkc.step s18
          refine ⟨ws, mk8.2.2.1, ?_, Z8, ws ++ [w], acc1 ++ [z], lec.trans s18.le, mk8.snoc hD rz, ?_, by rw [snoc1]; exact q8⟩
          · rw [mk8.2.2.2.length]; exact hzl
          · have hS8 := hSc.step s18
            have := hS8.pin (o := .lst (ws ++ [w])) (nl _) mk8.2.1 (hS8.out (nl _))
            rwa [upd_upd] at this
theorem wo_lc2 {elt tg iter tg1 iter1 : Expr} {ifs ifs1 : List Expr} {scope : Scope} (own : List (Str × Nat)) (vs1 : List Nat) (ok : blkB c.N c.sc scope own = true) (hv : (vs1.all fun i => (own.map (·.2)).contains i) = true)
    (h : Lc2 c elt tg iter tg1 iter1 ifs ifs1 scope own vs1 Q Δ)
    (hs : ∀ env x, foldedSetIterable iter env x = pure x := by intro _ _; rfl) (hs1 : ∀ env x, foldedSetIterable iter1 env x = pure x := by intro _ _; rfl) (hh : c.hot = none := by rfl) : WO c (.ListComp elt [⟨tg, iter, ifs, 0⟩, ⟨tg1, iter1, ifs1, 0⟩] scope pos) Q Δ := fun X H0 Z0 hX σ H Z hS =>
  We.of (pe_lc2 (hX.calm hh) (by rw [hX.N]; exact hX.nd) pi_wi (by rw [hX.N, hX.sc]; exact blkOk_of ok) (fun i hi => List.contains_iff_mem.mp (List.all_eq_true.mp hv i hi)) pg_b pt_b pi_b pg_b pt_b pe_b (hs X.env) hs1) (lc2_run h hh hX hS)
/-- x = [.. for .. for ..] -/
theorem ws_setLc2 (i : Nat) {x : Str} {p p1 : Pos} {elt tg iter tg1 iter1 : Expr} {ifs ifs1 : List Expr} {scope : Scope} (own : List (Str × Nat)) (vs1 : List Nat) (ok : blkB c.N c.sc scope own = true) (hv : (vs1.all fun i => (own.map (·.2)).contains i) = true) (hi : c.N[i]? = some x) (hx : c.sc.names.lookup x = some .local)
    (h : Lc2 c elt tg iter tg1 iter1 ifs ifs1 scope own vs1 (fun d => T.nx (Δ.set i (some d))) Δ)
    (hk : c.sc.kind = .function := by rfl) (hp : (p.line == p1.line) = true := by rfl) (hn : (scope.names.any fun (n, k) => n == x && (k == .local || k == .cell)) = false := by decide +kernel) (hs : ∀ env x, foldedSetIterable iter env x = pure x := by intro _ _; rfl) (hs1 : ∀ env x, foldedSetIterable iter1 env x = pure x := by intro _ _; rfl) (hst : c.st x = true := by rfl) (hh : c.hot = none := by rfl) : WS c (.Assign [.Name x p] (.ListComp elt [⟨tg, iter, ifs, 0⟩, ⟨tg1, iter1, ifs1, 0⟩] scope p1) pos) T Δ := fun X H0 Z0 hX σ H Z hS => by
  have hsw : ∀ line, swapsWith (.ListComp elt [⟨tg, iter, ifs, 0⟩, ⟨tg1, iter1, ifs1, 0⟩] scope p1) (some (.Name x p)) line X.env = pure true := fun line => by
    show (pure (X.env.blockKind == .function && X.env.kindOf x == some .local && p.line == p1.line && !(scope.names.any fun (n, k) => n == x && (k == .local || k == .cell))) : Sem Bool) = pure true
    have e : X.env.kindOf x = some .local := by show X.env.scope.names.lookup x = _; rw [hX.sc]; exact hx
    have e2 : X.env.blockKind = .function := by
      unfold Env.blockKind
      rw [hX.sc, hk]; rfl
    rw [e, e2, hp, hn]; rfl
  refine Ws.of (ps_setLc2 (own := own) (vs1 := vs1) (wi := Wi X tg iter) (hX.calm hh) (by rw [hX.N]; exact hX.nd) (by rw [hX.N]; exact hi) (by rw [hX.sc]; exact hx) (hsw _) pi_wi (by rw [hX.N, hX.sc]; exact blkOk_of ok) (fun i hi => List.contains_iff_mem.mp (List.all_eq_true.mp hv i hi)) pg_b pt_b pi_b pg_b pt_b pe_b (hs X.env) hs1) ?_
  have r := lc2_run h hh hX.toCtxOk hS
  have mono : ∀ {wi wi1 : TI} {g g1 : TG} {tt tt1 : TT} {te : TE} {vs vs1 : List Nat} {Q Q' : VK}, (∀ {R R' : It → Hp → Prop}, (∀ J H', R J H' → R' J H') → wi σ H R → wi σ H R') → tLc2 wi g tt wi1 g1 tt1 te vs vs1 σ H Q → (∀ v H', Q v H' → Q' v H') → tLc2 wi g tt wi1 g1 tt1 te vs vs1 σ H Q' := fun {wi wi1 g g1 tt tt1 te vs vs1 Q Q'} mw t k =>
    mw (fun J H' r Dl hD => by
      obtain ⟨W, w0, st⟩ := r Dl hD
      exact ⟨W, w0, fun i m H2 w => (st i m H2 w).imp (fun ⟨a, b⟩ => ⟨a, k _ _ b⟩) id⟩) t
  exact mono (fun k h => h.mono k) r fun v H1 ⟨Z1, d, s1, r1, q⟩ => ⟨Z1, _, s1.le, hS.setO s1 i r1, q⟩
end
end DL
end
section
set_option Elab.async false
set_option linter.all false
set_option maxRecDepth 100000
set_option maxHeartbeats 4000000
/-! DL28: one's own dict, made, its length; index and extend of one's own list; max of a tuple; sorted(set(t)). -/
namespace DL
open PySem PySem.Spec PyProof.Rows L2 PySem.W
section
variable {X : Cx}
def rLenK : List V → Hp → VK → Prop := fun xs H Q => ∃ (a : Addr) (kvs : List (Key × V)), xs = [V.ref a] ∧ H a = some (.dK kvs) ∧ Q (.int kvs.length) H
theorem cr_lenK : CallR X (.builtin "len") rLenK := by
  intro pins s σ H vs us Q I r h
  obtain ⟨a, kvs, rfl, hs, q⟩ := h
  rw [Vals.ref1 r]
  exact d_len I (.of hs) fun t s' I' => ⟨.int _, H, I', ⟨_, rfl⟩, q⟩
def rMaxT (K : PySem.W.Frag) : List V → Hp → VK → Prop := fun vs H Q => ∃ (a : Addr) (ns : List Int), vs = [V.ref a] ∧ SqT K H a (ns.map V.int) ∧ 0 < ns.length ∧ ∀ m, m ∈ ns → (∀ y ∈ ns, y ≤ m) → Q (.int m) H
theorem maxOf_ints : ∀ (xs : List Int) (x : Int), maxOf x xs ∈ x :: xs ∧ ∀ y ∈ x :: xs, y ≤ maxOf x xs
  | [], x => ⟨by show x ∈ [x]; simp, fun y hy => by rw [List.mem_singleton] at hy; subst hy; exact Int.le_refl _⟩
  | z :: xs, x => by
    have e : maxOf x (z :: xs) = maxOf (if x < z then z else x) xs := by
      unfold maxOf
      rw [List.foldl_cons]
      congr 1
      show (if decide (x < z) = true then z else x) = _
      by_cases h : x < z <;> simp [h]
    rw [e]
    obtain ⟨h1, h2⟩ := maxOf_ints xs (if x < z then z else x)
    have h3 := h2 _ List.mem_cons_self
    refine ⟨?_, fun y hy => ?_⟩
    · rcases List.mem_cons.mp h1 with h | h
      · rw [h]
        by_cases hx : x < z
        · rw [if_pos hx]; simp
        · rw [if_neg hx]; simp
      · exact List.mem_cons_of_mem _ (List.mem_cons_of_mem _ h)
    · rcases List.mem_cons.mp hy with rfl | hy
      · by_cases hx : y < z
        · rw [if_pos hx] at h3 ⊢; omega
        · rw [if_neg hx] at h3 ⊢; exact h3
      · rcases List.mem_cons.mp hy with rfl | hy
        · by_cases hx : x < y
          · rw [if_pos hx] at h3 ⊢; exact h3
          · rw [if_neg hx] at h3 ⊢; omega
        · exact h2 y (List.mem_cons_of_mem _ hy)
theorem cr_maxT (hc : X.calm = true) (hu : X.A.units + 2 < cLine) : CallR X (.builtin "max") (rMaxT X.K) := by
  intro pins s σ H vs us Q I r h
  obtain ⟨a, ns, rfl, hs, hn, q⟩ := h
  obtain ⟨its, rv, hl, _⟩ := I.tuple hs
  rw [Vals.ref1 r]
  have hi := rv.ints
  cases ns with
  | nil => cases hn
  | cons x xs =>
    obtain ⟨m1, m2⟩ := maxOf_ints xs x
    refine max_tuple_datum (α := Int) (x := x) (xs := xs) (I.ok.hd hc) hl (HoldAll.of_ints (by simpa using hi)) (by show X.A.units + 1 + 0 < cLine; omega) fun i v h' tk hv hh k => ?_
    obtain ⟨t, e⟩ := PyProof.Rows.IntsAre.int_at hi i v (by simpa using hv)
    subst e
    obtain ⟨as, rr⟩ := hh
    have ev : (x :: xs).getD i 0 = maxOf x xs := by
      generalize (x :: xs).getD i 0 = z at rr
      generalize maxOf x xs = y at rr
      have rr : Reads h' (.int z t) (.int y) as := rr
      cases rr; rfl
    rw [ev]
    exact ⟨.int _, H, I.kept k, ⟨_, rfl⟩, q _ m1 m2⟩
def rSetI (K : PySem.W.Frag) (w : World) : List V → Hp → VK → Prop := fun xs H Q => ∃ (a : Addr) (ns : List Int), xs = [V.ref a] ∧ SqT K H a (ns.map V.int) ∧ ns.length ≤ 60 ∧ ∀ p n, H p = none → n ≤ 60 → Q (.ref p) (upd H p (SetO w p (fun j => decide (j ∈ ns)) n))
theorem cr_setI (hc : X.calm = true) : CallR X (.type "set") (rSetI X.K X.w) := by
  intro pins s σ H vs us Q I r h
  obtain ⟨a, ns, rfl, hs, hn, q⟩ := h
  obtain ⟨its, rv, hl, _⟩ := I.tuple hs
  rw [Vals.ref1 r]
  have hfr : H s.heap.objs.size = none := I.hok.fresh (Nat.le_refl _)
  refine call_set_tupI (P := X.prog) (w := X.w) ns (I.ok.hd hc) hl (by simpa using rv.ints) (by unfold scanBound; omega) fun h' tk n R hle k => ?_
  exact ⟨.ref _, upd H s.heap.objs.size (SetO X.w s.heap.objs.size (fun j => decide (j ∈ ns)) n), I.laid (t' := tk) k (Nat.le_refl _) (setO_new R), rfl, q _ n hfr (by omega)⟩
end
section
variable {c : Cf} {e a b : Expr} {es : List Expr} {Q : D → Prop} {Δ : Dl} {pos : Pos} {T : Te}
/-- {} -/
theorem wo_dict0 (q : ∀ p : Addr, Q (.oK p [] [])) : WO c (.Dict [] [] pos) Q Δ := fun X H0 Z0 hX σ H Z hS =>
  We.of pe_dnewK fun p hp => ⟨Z, _, .new hS.ok hp, .inr ⟨p, _, rfl, .of hp, hS.ok.none hp, upd_same, .dK (ks := []) (vs := []) rfl .nil⟩, q p⟩
theorem wt_niK (i : Nat) {x : Str} {p : Pos} {q : Addr} {ks : List Key} {l : List D} {Q : Bool → Prop} (hN : c.N[i]? = some x) (hv : Vis c.sc x) (hi : Δ[i]? = some (some (.oK q ks l))) (h : WE c a (fun y => ∃ k, y.key = some k ∧ Q (!(lookD ks l k).isSome)) Δ)
    (hd : (x == ("__debug__" : Str)) = false := by decide) (hcd : (x == ("__classdict__" : Str)) = false := by decide) (hh : c.hot = none := by rfl) : WT c (.Compare a [.NotIn] [.Name x p] pos) Q Δ := fun X H0 Z0 hX σ H Z hS => by
  refine Wt.of (pt_cmp (pc_dnotin (hX.hu hh) pe_we (pe_var (i := i) (by rw [hX.N]; exact hN) (by rw [hX.sc]; exact hv) hd hcd)) rfl) ?_
  refine (h X H0 Z0 hX σ H Z hS).mono fun v H1 ⟨Z1, y, s1, ry, k, hk, qq⟩ => ?_
  obtain ⟨l', o, e1, h0, zl, hl, ow⟩ := (hS.step s1).getO hi rfl
  have ev := key_of hk ry
  subst ev
  cases ow with
  | dK el rr =>
    refine ⟨_, e1, _, _, rfl, DGet.k hl, _, rfl, Z1, s1, ?_⟩
    cases q2 : lookD ks l k with
    | none => rw [(look_rel (ks := ks) (k := k) rr).1 q2]; rw [q2] at qq; exact qq
    | some d =>
      obtain ⟨w, hw, _⟩ := (look_rel (ks := ks) (k := k) rr).2 d q2
      rw [hw]; rw [q2] at qq; exact qq
/-- len(x), x one's own dict -/
theorem we_lenK (i : Nat) {x f : Str} {p p2 : Pos} {q : Addr} {ks : List Key} {l : List D} (hg : Glo c f) (hm : c.mg f = none) (hv0 : bootBuiltins f = some (.builtin "len")) (hN : c.N[i]? = some x) (hv : Vis c.sc x) (hi : Δ[i]? = some (some (.oK q ks l))) (h : Q (.int ks.length))
    (hn : f ≠ "__name__" := by decide) (hdb : (f == ("__debug__" : Str)) = false := by decide) (hd : (x == ("__debug__" : Str)) = false := by decide) (hcd : (x == ("__classdict__" : Str)) = false := by decide) : WE c (.Call (.Name f p2) [.Name x p] [] pos) Q Δ := fun X H0 Z0 hX σ H Z hS => by
  refine We.of (pe_callB cr_lenK (hX.gl hg) (by rw [hX.mg]; exact hm) hv0 (pa_cons (pe_var (i := i) (by rw [hX.N]; exact hN) (by rw [hX.sc]; exact hv) hd hcd) pa_nil rfl) hn hdb rfl rfl) ?_
  obtain ⟨l', o, e1, h0, zl, hl, ow⟩ := hS.getO hi rfl
  refine ⟨_, e1, ?_⟩
  cases ow with
  | dK el rr => exact ⟨_, _, rfl, hl, Z, _, .refl hS.ok, .int, by rw [List.length_zip, ← el, Nat.min_self]; exact h⟩
theorem eqV_int {i j : Int} : eqV (V.int i) (V.int j) = decide (i = j) := by
  show (i == j) = _
  by_cases h : i = j <;> simp [h]
/-- x.index(e), x one's own list of ints -/
theorem we_idx (i : Nat) {x : Str} {p ap cp : Pos} {ns : List Int} (hN : c.N[i]? = some x) (hv : Vis c.sc x) (hi : Δ[i]? = some (some (.ol (ns.map D.int))))
    (h : WE c e (fun y => ∃ (k : Int) (j : Nat), y = .int k ∧ ns[j]? = some k ∧ (∀ m : Nat, m < j → ns[m]? ≠ some k) ∧ Q (.int (j : Nat))) Δ) (hse : isStar e = false := by rfl) (hline : (ap.endLine == cp.line) = true := by rfl)
    (hd : (x == ("__debug__" : Str)) = false := by decide) (hcd : (x == ("__classdict__" : Str)) = false := by decide) :
    WE c (.Call (.Attribute (.Name x p) "index" ap) [e] [] cp) Q Δ := fun X H0 Z0 hX σ H Z hS => by
  refine We.of (pe_bm PySem.F.plainAttrs_list PySem.F.slot_list_index PySem.F.type_list_index mt_index (pe_var (i := i) (by rw [hX.N]; exact hN) (by rw [hX.sc]; exact hv) hd hcd) (pa_cons pe_we pa_nil (star1 hse)) rfl (by rw [star1 hse]; rfl) hline (star1 hse) rfl) ?_
  obtain ⟨l, o, e1, h0, zl, hl, r⟩ := hS.getO hi rfl
  cases r with
  | lst rr =>
    rename_i vs
    refine ⟨_, e1, .inl ⟨rfl, _, .of hl⟩, ?_⟩
    refine (h X H0 Z0 hX σ H Z hS).mono fun v H1 ⟨Z1, y, s1, ry, k, j, ey, hj, hno, q⟩ => ?_
    subst ey
    cases ry
    have kk := s1.keep l _ hl zl ⟨fun ps e => (nomatch e), fun c q e => (nomatch (show _ = HO.ext _ from e)), fun vs e => (nomatch e)⟩
    have ev := rr.of_ints
    subst ev
    refine ⟨l, ns.map V.int, .int k, j, .int k, rfl, rfl, .of kk.1, rfl, ?_, by rw [List.getElem?_map, hj]; rfl, by rw [eqV_int]; simp, fun m z' hm hz => ?_, Z1, _, s1, .int, q⟩
    · rw [List.all_map]; exact List.all_eq_true.mpr fun _ _ => rfl
    · rw [List.getElem?_map] at hz
      cases q2 : ns[m]? with
      | none => rw [q2] at hz; cases hz
      | some u =>
        rw [q2] at hz; cases hz
        rw [eqV_int, decide_eq_false_iff_not]
        exact fun z => hno m hm (by rw [q2, z])
/-- x.extend(e) -/
theorem ws_ext (i : Nat) {x : Str} {p ap cp : Pos} {ds : List D} (hN : c.N[i]? = some x) (hv : Vis c.sc x) (hi : Δ[i]? = some (some (.ol ds)))
    (h : WE c e (fun y => ∃ ys, y = .lst ys ∧ ds.length + ys.length ≤ sizeLine ∧ T.nx (Δ.set i (some (.ol (ds ++ ys))))) Δ) (hse : isStar e = false := by rfl) (hline : (ap.endLine == cp.line) = true := by rfl) (hs : ∀ env, swapsWith (.Call (.Attribute (.Name x p) "extend" ap) [e] [] cp) none pos.line env = pure false := by intro _; rfl)
    (hd : (x == ("__debug__" : Str)) = false := by decide) (hcd : (x == ("__classdict__" : Str)) = false := by decide) :
    WS c (.Expr (.Call (.Attribute (.Name x p) "extend" ap) [e] [] cp) pos) T Δ := fun X H0 Z0 hX σ H Z hS => by
  refine Ws.of (ps_expr (pe_bm PySem.F.plainAttrs_list PySem.F.slot_list_extend PySem.F.type_list_extend mt_extend (pe_var (i := i) (by rw [hX.N]; exact hN) (by rw [hX.sc]; exact hv) hd hcd) (pa_cons pe_we pa_nil (star1 hse)) rfl (by rw [star1 hse]; rfl) hline (star1 hse) rfl) (hs _)) ?_
  obtain ⟨l, o, e1, h0, zl, hl, r⟩ := hS.getO hi rfl
  cases r with
  | lst rr =>
    rename_i vs
    refine ⟨_, e1, .inl ⟨rfl, _, .of hl⟩, ?_⟩
    refine (h X H0 Z0 hX.toCtxOk σ H Z hS).mono fun v H1 ⟨Z1, y, s1, ry, ys, ey, hz, q⟩ => ?_
    subst ey
    have k := s1.keep l _ hl zl ⟨fun ps e => (nomatch e), fun c q e => (nomatch (show _ = HO.ext _ from e)), fun vs e => (nomatch e)⟩
    obtain ⟨b, ws, rfl, hb, _, rw'⟩ := ry.lst_inv s1.ok
    exact ⟨l, b, vs, ws, rfl, rfl, k.1, hb, by rw [rr.length, rw'.length]; exact hz, Z1, _, s1.le, (hS.step s1).put hi rfl e1 (.lst ((rr.le s1.le).append rw')), q⟩
theorem vc_maxT {ns : List Int} (hn : 0 < ns.length) (q : ∀ m, m ∈ ns → (∀ y ∈ ns, y ≤ m) → Q (.int m)) (hh : c.hot = none := by rfl) : VC c (.builtin "max") [.tup (ns.map D.int)] Q := fun X _ _ hX H Z vs ok r => by
  obtain ⟨v, rfl, r1⟩ := r.one
  obtain ⟨p, ws, rfl, hp, _, rr⟩ := r1.tup_inv ok
  exact ⟨_, cr_maxT (hX.calm hh) (by have := (hX.room hh).un; omega), p, ns, rfl, .of (by rw [hp, rr.of_ints]), hn, fun m h1 h2 => opost ok .int (q m h1 h2)⟩
/-- sorted(set(t)), t a tuple of ints -/
theorem wo_sortSet {x y : Str} {p p2 pos2 : Pos} (hg : Glo c x) (hm : c.mg x = none) (hv : bootBuiltins x = some (.builtin "sorted")) (hg2 : Glo c y) (hm2 : c.mg y = none) (hv2 : bootBuiltins y = some (.type "set"))
    (h : WE c e (fun d => ∃ ns : List Int, d = .tup (ns.map D.int) ∧ ns.length ≤ 60 ∧ ∀ ns' : List Int, ns'.Pairwise (· < ·) → (∀ k, k ∈ ns' ↔ k ∈ ns) → Q (.ol (ns'.map D.int))) Δ) (hs : isStar e = false := by rfl)
    (hn : x ≠ "__name__" := by decide) (hdb : (x == ("__debug__" : Str)) = false := by decide) (hn2 : y ≠ "__name__" := by decide) (hdb2 : (y == ("__debug__" : Str)) = false := by decide) (hh : c.hot = none := by rfl) :
    WO c (.Call (.Name x p) [.Call (.Name y p2) [e] [] pos2] [] pos) Q Δ := fun X H0 Z0 hX σ H Z hS => by
  refine We.of (pe_callB (cr_sortedSet (hX.calm hh)) (hX.gl hg) (by rw [hX.mg]; exact hm) hv (pa_cons (pe_callTy (cr_setI (hX.calm hh)) (hX.gl hg2) (by rw [hX.mg]; exact hm2) hv2 (pa_cons pe_we pa_nil (star1 hs)) hn2 hdb2 (star1 hs) rfl) pa_nil rfl) hn hdb rfl rfl) ?_
  refine (h X H0 Z0 hX σ H Z hS).mono fun v H1 ⟨Z1, d, s1, r1, ns, ed, hl, q⟩ => ?_
  subst ed
  obtain ⟨a, ws, rfl, ha, _, rr⟩ := r1.tup_inv s1.ok
  refine ⟨a, ns, rfl, .of (by rw [ha, rr.of_ints]), hl, fun p0 n hp0 hn60 => ?_⟩
  have s2 : Stp H1 Z1 (upd H1 p0 (SetO X.w p0 (fun j => decide (j ∈ ns)) n)) Z1 := .new s1.ok hp0
  refine ⟨p0, _, n, rfl, upd_same, by omega, fun ns' p1 hpw hmm hlen hp1 => ?_⟩
  refine oPost.mono hS.ok (s1.trans s2) (opost_newL s2.ok hp1 ?_ (q ns' hpw fun k => by rw [hmm k, decide_eq_true_eq]))
  clear hmm hpw hlen
  induction ns' with
  | nil => exact .nil
  | cons i t ih => exact .cons .int ih
end
end DL
end
section
set_option Elab.async false
set_option linter.all false
set_option maxRecDepth 100000
set_option maxHeartbeats 4000000
/-! DL29: x is not True, x is not False. -/
namespace DL
open PySem PySem.Spec PyProof.Rows L2
section
variable {c : Cf} {Q : D → Prop}
theorem op_nisB {X : Cx} {k : Bool} : OpR X (compareOp .IsNot) (fun x y H Q => y = .bl k ∧ (∀ a, x = .ref a → True) ∧ Q (.bl (!decide (x = .bl k))) H) := fun pins s σ H x y v u Q I rx ry ⟨ey, _, q⟩ => by
  subst ey; cases ry
  have fin : ∀ b, (!decide (x = .bl k)) = b → EP X pins σ Q (.bool b) s := fun b hb => ⟨.bl b, H, I, rfl, by rw [← hb]; exact q⟩
  show wpAny (model X.prog X.w) X.A (do return Value.bool (!(← isSame v (.bool k)))) (EP X pins σ Q) X.xe s
  cases x with
  | non => cases rx; exact wpAny_bind (wpAny_pure (wpAny_pure (fin _ rfl)))
  | bl b =>
    cases rx
    refine wpAny_bind (wpAny_pure (wpAny_pure (fin _ ?_)))
    cases b <;> cases k <;> rfl
  | int i => obtain ⟨t, rfl⟩ := rx; exact wpAny_bind (wpAny_pure (wpAny_pure (fin _ rfl)))
  | str i => obtain ⟨t, rfl⟩ := rx; exact wpAny_bind (wpAny_pure (wpAny_pure (fin _ rfl)))
  | byt i => obtain ⟨t, rfl⟩ := rx; exact wpAny_bind (wpAny_pure (wpAny_pure (fin _ rfl)))
  | flt i => obtain ⟨t, rfl⟩ := rx; exact wpAny_bind (wpAny_pure (wpAny_pure (fin _ rfl)))
  | ref i => cases rx; exact wpAny_bind (wpAny_pure (wpAny_pure (fin _ rfl)))
  | ty i => cases rx; exact wpAny_bind (wpAny_pure (wpAny_pure (fin _ rfl)))
theorem vo_nisB {x : D} {k : Bool} (q : Q (.bl (!x.isB k))) : VO c (compareOp .IsNot) x (.bl k) Q := fun X _ _ _ H Z v u ok r1 r2 => by
  cases r2
  refine ⟨_, op_nisB (k := k), rfl, fun _ _ => trivial, opost ok .bl ?_⟩
  have e : decide (v = V.bl k) = x.isB k := by
    cases r1 <;> first | rfl | (rename_i b; cases b <;> cases k <;> rfl)
  rw [e]; exact q
end
end DL
end
section
set_option Elab.async false
set_option linter.all false
set_option maxRecDepth 100000
set_option maxHeartbeats 4000000
/-! DL30: _law_raised: as _law_caught, with None where nothing was raised. -/
namespace DL
open PySem PySem.Spec PyProof.Rows L2
section
variable {X : Cx}
theorem raised_gives (gd : X.A.guards = some []) (un : X.A.units + 200 < cLine) {Ng ps : List Str} {x a e n q : Str} {sg : Scope} {g CS : Addr} {cdg : Value} {okX : XD → Prop} {told : XD → D} {j : Nat} {b₀ : Stmt} {suite : List Stmt} {p1 p2 p3 p4 p5 p6 p7 p8 : Pos} (Sg : FnScope Ng ps sg)
    (h0 : ∀ f : Addr, (L2.start Ng [V.ref f])[0]? = some (some (V.ref f))) (hn : Ng[1]? = some n) (hln : sg.names.lookup n = some .local) (hge : sg.names.lookup e = some .globalImplicit) (hme : X.mg e = some (.ref CS)) (hde : (e == ("__debug__" : Str)) = false)
    (hex : ∀ y, okX y → PySem.W.exmOne X.K (.ref y.C) (.ref CS) = some true)
    (hsu : ∀ (y : XD) (w dd : Addr), okX y → WB ⟨X.prog, X.w, X.K, X.mg, X.base, Ng, sg, 0, fun _ => False, fun _ => true, some (w, y.C, dd), some ⟨[], none⟩⟩ (b₀ :: suite) ⟨fun _ => False, fun d _ => d = told y, fun _ => False, fun _ => False⟩ ((List.replicate Ng.length none).set 1 (some (.xc w y.C dd y.ns y.ds)))) :
    LamX.GivesTo X Ng x sg g cdg [.Try [.Expr (.Call (.Name a p1) [] [] p2) p3] [.ExceptHandler (some (.Name e p4)) (some n) (b₀ :: suite) p5] [] [] p6, .Return (some (.Constant .none j p7)) p8] a q (TTd X.K okX told .non) := by
  intro f c' s H Q tl act hc ⟨Z, W0, Nm, ok, ht, hnm, hx⟩
  refine ⟨_, pss_cons (ps_try_as (X := (cxOf C8.CX0 X.prog X.w X.K X.mg X.base Ng x sg g cdg X.A X.stack s H C8.E0).nox) (i := 1) (c := .ref CS)
      (tb := fun W D σ H' => ∃ Ech : XK, (∀ cls d σ' H', Ech cls d H' → W cls d σ' H') ∧ σ[0]? = some (some (.ref f)) ∧ H' c' = some (LamX.CodeO c' q) ∧ tl Ech H' (fun _ H2 => D.nx σ H2))
      (ts := fun w cls d D σ H' => ∀ oe pn, Zc cls d oe → (∃ vs, oe.data = .fields vs) → Wss ((cxOf C8.CX0 X.prog X.w X.K X.mg X.base Ng x sg g cdg X.A X.stack s H C8.E0).nox.suite w ((w, oe) :: pn)) (b₀ :: suite) D σ H')
      rfl rfl Sg.nd hn hln ⟨hge, hde, .inl hme⟩ LamX.takes0 (fun W pn xe tk _ => ?_) (fun w oe cls d pn hz hf => ⟨fun pins s' σ H' D I h => h oe pn hz hf pins s' I⟩)) (pss_one (ps_ret pe_non)), ?_⟩
  · refine ⟨fun pins s' σ H' D I h' => ?_⟩
    obtain ⟨Ech, hW, h1, h2, h3⟩ := h'
    have hp := pss_one (ps_expr (pos := p3) (act W pn xe Ech p1 p2 tk hW))
    exact hp.run pins s' σ H' D I ⟨h1, h2, h3⟩
  · refine ⟨fun cls d H' => ∃ Z' x, Stp H Z H' Z' ∧ RX X.K Z' H' cls d x ∧ W0 x, fun cls d σ' H' ⟨Z', y, st, rx, hw⟩ => ?_, h0 f, hc, ht _ fun v H' Z' st nm => ?_⟩
    · obtain ⟨okx, hq⟩ := hx y hw
      obtain ⟨rfl, dd, vs, rfl, zd, el, rr⟩ := rx
      refine ⟨true, hex y okx, fun _ w hw0 => ?_, fun z => nomatch z⟩
      intro oe pn hz hf pins s' I
      have hlen := I.len
      have hlen2 : (σ'.set 1 (some (V.ref w))).length = Ng.length := hlen
      have h1 : 1 < Ng.length := (List.getElem?_eq_some_iff.mp hn).1
      have hS : Slots X.K H Z (σ'.set 1 (some (V.ref w))) H' Z' ((List.replicate Ng.length none).set 1 (some (.xc w y.C dd y.ns y.ds))) := by
        refine ⟨ok, st, by rw [hlen2]; simp, fun i d' q' => ?_, fun i i' d1 d2 l q1 q2 o1 o2 _ _ => ?_⟩
        · rcases setAt q' with ⟨rfl, e2, _⟩ | ⟨_, q'⟩
          · cases e2
            exact ⟨.ref w, by rw [List.getElem?_set_self (by rw [List.length_set] at hlen2; rw [hlen2]; exact h1)], .inl (.xc zd el rr)⟩
          · rw [List.getElem?_replicate] at q'
            split at q' <;> cases q'
        · rcases setAt q1 with ⟨_, e2, _⟩ | ⟨_, q1⟩
          · cases e2; cases o1
          · rw [List.getElem?_replicate] at q1
            split at q1 <;> cases q1
      have hX : CtxS ⟨X.prog, X.w, X.K, X.mg, X.base, Ng, sg, 0, fun _ => False, fun _ => true, some (w, y.C, dd), some ⟨[], none⟩⟩ H Z ((cxOf C8.CX0 X.prog X.w X.K X.mg X.base Ng x sg g cdg X.A X.stack s H C8.E0).nox.suite w ((w, oe) :: pn)) :=
        { P := rfl, w := rfl, K := rfl, mg := rfl, base := rfl, N := rfl, sc := rfl, calm := fun z => (nomatch z),
          su := fun a C d z => by cases z; exact ⟨_, oe, pn, rfl, hz, hf⟩
          lm := fun L z => by cases z; exact ⟨⟨gd, by show X.A.units + 3 + 100 < cLine; omega⟩, .nil, fun _ _ _ z => (nomatch z)⟩, room := fun z => (nomatch z), nd := Sg.nd, fn := fun _ _ _ => .inl rfl,
          tk := LamX.takes0.imp fun cls d σ H' ⟨Z', y, st', rx, hw⟩ => hw, own := PassesOwn.never }
      refine thn (hsu y w dd okx _ H Z hX _ H' Z' hS pins s' I) fun fl s2 qq => sp_mono qq (fun σ2 H2 ⟨_, _, _, _, z⟩ => z.elim) (fun v H2 ⟨Z2, d, σ2, Δ2, hS2, r2, ed⟩ => ?_) (fun _ _ ⟨_, _, _, _, z⟩ => z.elim) fun _ _ ⟨_, _, _, _, z⟩ => z.elim
      subst ed
      exact hq v H2 Z2 hS2.stp r2
    · exact hnm nm _ _ _ st (.inl .non)
end
end DL
end
section
set_option Elab.async false
set_option linter.all false
set_option maxRecDepth 100000
set_option maxHeartbeats 4000000
/-! DL31: x == [], x != []: x a list of plain data, bools among them. -/
namespace DL
open PySem PySem.Spec PyProof.Rows L2
/-- plain data, bools among it -/
structure OkB (n : Nat) (d : D) : Prop where
  pu : d.pure = true
  la : d.py.canLay0 = true
  de : d.py.depth ≤ n
theorem OkD.okB {n : Nat} {d : D} (h : OkD n d) : OkB n d := ⟨h.pu, h.la, h.de⟩
theorem OkB.bl {n : Nat} {b : Bool} : OkB n (.bl b) := ⟨rfl, by simp only [D.py, PyData.canLay0], by simp only [D.py, PyData.depth]; exact Nat.zero_le _⟩
theorem okbs {n : Nat} : ∀ {l : List D}, (∀ d ∈ l, OkB n d) → pures l = true ∧ PyData.canLayAll0 (pys l) = true ∧ PyData.depthAll (pys l) ≤ n
  | [], _ => ⟨rfl, by simp only [pys, PyData.canLayAll0], by simp only [pys, PyData.depthAll]; exact Nat.zero_le _⟩
  | d :: l, h => by
    obtain ⟨a, b, c⟩ := okbs (l := l) fun d hd => h d (List.mem_cons_of_mem _ hd)
    have k := h d List.mem_cons_self
    refine ⟨?_, ?_, ?_⟩
    · show (d.pure && pures l) = true; rw [k.pu, a]; rfl
    · simp only [pys, PyData.canLayAll0, k.la, b, Bool.and_self]
    · simp only [pys, PyData.depthAll]; exact Nat.max_le.mpr ⟨k.de, c⟩
theorem OkB.tup {n : Nat} {l : List D} (h : ∀ d ∈ l, OkB n d) : OkB (n + 1) (.tup l) := by
  obtain ⟨a, b, c⟩ := okbs h
  exact ⟨a, by simp only [D.py, PyData.canLay0]; exact b, by simp only [D.py, PyData.depth]; omega⟩
theorem OkB.lst {n : Nat} {l : List D} (h : ∀ d ∈ l, OkB n d) : OkB (n + 1) (.lst l) := by
  obtain ⟨a, b, c⟩ := okbs h
  exact ⟨a, by simp only [D.py, PyData.canLay0]; exact b, by simp only [D.py, PyData.depth]; omega⟩
theorem OkB.shaped {n : Nat} {d : D} (h : OkB n d) (k : n ≤ 64) : SeqAt.shaped d.py = true := by
  show (d.py.canLay0 && decide (d.py.depth ≤ 64)) = true
  rw [h.la, decide_eq_true (Nat.le_trans h.de k)]; rfl
theorem eqv_nil (l : List D) : PyData.eqv (D.lst l).py (D.lst []).py = l.isEmpty := by
  cases l with
  | nil => simp [D.py, pys, PyData.eqv, PyData.eqvAll]
  | cons d l => simp [D.py, pys, PyData.eqv, PyData.eqvAll]
section
variable {c : Cf} {Q : D → Prop}
theorem vo_eqNil {l : List D} (h : ∀ d ∈ l, OkB 60 d) (q : Q (.bl l.isEmpty)) (hh : c.hot = none := by rfl) : VO c (compareOp .Eq) (.lst l) (.lst []) Q :=
  have a := OkB.lst h
  have b : OkB 61 (.lst []) := OkB.lst (n := 60) (by simp)
  vo_eqD (hh := hh) a.pu b.pu (a.shaped (by decide)) (b.shaped (by decide)) (by rw [eqv_nil]; exact q)
theorem vo_neNil {l : List D} (h : ∀ d ∈ l, OkB 60 d) (q : Q (.bl (!l.isEmpty))) (hh : c.hot = none := by rfl) : VO c (compareOp .NotEq) (.lst l) (.lst []) Q :=
  have a := OkB.lst h
  have b : OkB 61 (.lst []) := OkB.lst (n := 60) (by simp)
  vo_neD (hh := hh) a.pu b.pu (a.shaped (by decide)) (b.shaped (by decide)) (by rw [eqv_nil]; exact q)
end
end DL
end
section
set_option Elab.async false
set_option linter.all false
set_option maxRecDepth 100000
set_option maxHeartbeats 4000000
/-! DL32: own == and != against a tuple; what comes of borrowed lists may hold tuples and frozen instances. -/
namespace DL
open PySem PySem.Spec PyProof.Rows L2
mutual
def D.noL : D → Bool
  | .non => true | .bl _ => true | .int _ => true | .str _ => true | .ty _ => true | .adr _ => true
  | .tup l => noLs l
  | .ins _ _ l => noLs l
  | _ => false
def noLs : List D → Bool
  | [] => true
  | d :: ds => d.noL && noLs ds
end
mutual
theorem Rp.unshrL {K : PySem.W.Frag} {Z : Sh} {p : Addr} {us : List V} (z : Z p = some (fz (.lst us))) : ∀ {d : D} {v : V}, d.noL = true → Rp K Z v d → Rp K (unshr Z p) v d
  | .non, _, _, .non => .non
  | .bl _, _, _, .bl => .bl
  | .int _, _, _, .int => .int
  | .str _, _, _, .str => .str
  | .ty _, _, _, .ty => .ty
  | .adr _, _, _, .adr => .adr
  | .tup l, _, h, .tup (a := q) (vs := vs) zq r => by
    have ne : q ≠ p := fun e => by
      subst e
      rw [z] at zq
      cases fz_inj (Option.some.inj zq)
    exact .tup (by unfold DL.unshr; rw [if_neg ne]; exact zq) (Rps.unshrL z h r)
  | .ins C ns l, _, h, .ins (a := q) (vs := vs) zq e r => by
    have ne : q ≠ p := fun e => by
      subst e
      rw [z] at zq
      cases fz_inj (Option.some.inj zq)
    exact .ins (by unfold DL.unshr; rw [if_neg ne]; exact zq) e (Rps.unshrL z h r)
theorem Rps.unshrL {K : PySem.W.Frag} {Z : Sh} {p : Addr} {us : List V} (z : Z p = some (fz (.lst us))) : ∀ {ds : List D} {vs : List V}, noLs ds = true → Rps K Z vs ds → Rps K (unshr Z p) vs ds
  | [], _, _, .nil => .nil
  | d :: ds, _, h, .cons r t => by
    have h' : (d.noL && noLs ds) = true := h
    rw [Bool.and_eq_true] at h'
    exact .cons (Rp.unshrL z h'.1 r) (Rps.unshrL z h'.2 t)
end
section
variable {c : Cf} {e a b : Expr} {es : List Expr} {Q : D → Prop} {T : Te} {Δ : Dl} {pos : Pos}
/-- one's own list, lent while e is reckoned -/
theorem we_lend (i : Nat) {l : List D} (hi : Δ[i]? = some (some (.ol l))) (h : WE c e (fun d => d.noL = true ∧ Q d) (Δ.set i (some (.lst l)))) : WE c e Q Δ := fun X H0 Z0 hX σ H Z hS => by
  obtain ⟨p, o, zl, hl, hS2, ow⟩ := hS.letsO hi rfl
  have nb := ow.nbo
  cases ow with
  | lst r0 =>
    exact (h X H0 Z0 hX σ H _ hS2).mono fun v H' ⟨Z', d, s, r, pt, q⟩ => ⟨_, d, DL.borrow zl hl nb s, Rp.unshrL (s.le p _ shr_same) pt r, q⟩
/-- x == y, x != y: x an instance of a class whose def for it is known, y a tuple -/
theorem vo_ownT {op : CmpOp} {j : Nat} {C : Addr} {ns : List Str} {l m : List D} {sp : DSp} (M : MetD c.P c.w c.K c.mg c.base j C (cmpInfo op).2.1 sp) (hj : j ≤ c.k) (hn : PySem.W.notFirst c.K C (.type "tuple") = true) (h : sp [.ins C ns l, .tup m] (fun d => (∃ k, d = .bl k) ∧ Q d) fun _ => False)
    (hop : ∀ a b, compareOp op a b = richCompare op a b := by intro _ _; rfl) (hh : c.hot = none := by rfl) : VO c (compareOp op) (.ins C ns l) (.tup m) Q := fun X H0 Z0 hX H Z v u ok r1 r2 => by
  obtain ⟨f, fd, ps, hs, hf, hb, FF⟩ := M.ex
  obtain ⟨p, dx, vs, rfl, hp, _, _⟩ := r1.ins_inv ok
  obtain ⟨q, ws, rfl, hq, _, _⟩ := r2.tup_inv ok
  refine ⟨fun y z H' Q' => y = .ref p ∧ z = .ref q ∧ H' = H ∧ ∀ v H2, oPost c.K H Z Q v H2 → Q' v H2, ?_, rfl, rfl, rfl, fun _ _ h => h⟩
  intro pins s σ H' y z vv uu Q' I ry rz ⟨e1, e2, e3, k⟩
  subst e1 e2 e3
  cases (show vv = Value.ref p from ry)
  cases (show uu = Value.ref q from rz)
  have rm : Room j X.A := (hX.room hh).mono hj
  obtain ⟨mA, J, _⟩ := ins_get I.hok hp
  obtain ⟨_, its, _, ot, hot, hct, _⟩ := I.hok _ _ hq
  obtain ⟨od, J, _⟩ := J.look
  obtain ⟨m, hF⟩ := I.fr
  rw [hop]
  have LT : PySem.W.Looks (model X.prog X.w) s.heap (typeOf (.ref q)) (.type "tuple") := fun A Q E s k q => wpAny_typeOf_ref (k _ _ hot) (by rw [hct]; exact q)
  refine PySem.W.cmp_K (op := op) (tb := .type "tuple") rm.units0 hF I.ok.mod.kin J LT (by rw [hX.K]; exact hn) (by rw [hX.K]; exact hs) (by rw [hX.K]; exact hf) ?_
  have hsp : lift c.K sp [.ref p, .ref q] H' (fun v H2 => (∃ k, v = .bl k) ∧ oPost c.K H' Z Q v H2) (fun _ _ _ => False) := by
    refine ⟨Z, _, _, _, ok, .cons r1 (.cons r2 .nil), h, fun d ⟨⟨k, ed⟩, qd⟩ v H2 Z2 st rr => ?_, fun _ z => z.elim⟩
    subst ed
    rcases rr with rr | ⟨_, _, _, _, _, _, rr⟩
    · cases rr; exact ⟨⟨k, rfl⟩, Z2, _, st, .inl .bl, qd⟩
    · cases rr
  have FX := hX.fnOk FF
  have hl := FX.len _ _ _ _ hsp
  have hbb := hb s [.ref p, .ref q] (by have := I.kIn; rw [hX.K] at this; exact this) (by simpa using hl)
  rw [List.append_nil] at hbb
  refine wpAny_call (codeAny_mono (FX.run X.A X.stack s H' ⟨[.ref p, .ref q], []⟩ [.ref p, .ref q] [.ref p, .ref q] _ _ rm I.env0 hbb (.cons rfl (.cons rfl .nil)) hsp) fun r s' hq' => ?_)
  match r, hq' with
  | .error y, hq' => obtain ⟨_, _, _, _, _, _, _, _, _, _, _, _, z⟩ := hq'; exact z.elim
  | .ok .next, hq' => exact False.elim hq'
  | .ok .brk, hq' => exact False.elim hq'
  | .ok .cont, hq' => exact False.elim hq'
  | .ok (.ret w), hq' =>
    obtain ⟨z, H2, I2, rz, ⟨kk, ek⟩, ez⟩ := I.after hq'
    subst ek
    cases rz
    exact ⟨.bl kk, H2, I2, rfl, k _ _ ez⟩
end
end DL
end
section
set_option Elab.async false
set_option linter.all false
set_option maxRecDepth 100000
set_option maxHeartbeats 4000000
/-! DL33: a zip object kept in a variable: x = zip(a, b), then return all([.. for .. in x]). -/
namespace DL
open PySem PySem.Spec PyProof.Rows L2
/-- an object tracked as it stands -/
def rawO (c : Addr) (o : Obj) : HO := .ext fun h => h.get? c = some o
/-- FpOk's part that no heap and no pin says -/
def FpX (X : Cx) (b : Addr) : Prop := b ≠ X.env.locals ∧ b ∉ X.fs ∧ (b ∈ X.ex ∨ X.s_0.heap.objs.size ≤ b) ∧ ∀ x c, X.env.cells.lookup x = some c → c ≠ b
section
variable {X : Cx} {pins : List (Addr × Obj)} {σ : L2.St} {H : Hp} {s : Shared} {c : Addr} {o : Obj}
theorem fpX_of (f : FpOk X pins H c) : FpX X c := ⟨f.2.1, f.2.2.1, f.2.2.2.1, f.2.2.2.2.1⟩
theorem fpOk_upd {d : Addr} {u : HO} (f : FpOk X pins H c) (h : c ≠ d) : FpOk X pins (upd H d u) c := ⟨by rw [upd_ne h]; exact f.1, f.2⟩
theorem inv_raw (I : Inv X pins σ H s) (ho : s.heap.get? c = some o) (f : FpOk X pins H c) : Inv X pins σ (upd H c (rawO c o)) s := by
  obtain ⟨hn, hL, hF, hnew, hC, hP⟩ := f
  have n0 : ∀ b ob, X.s_0.heap.get? b = some ob → b ∉ X.ex → b ≠ c := fun b ob e hx z => by
    subst z
    rcases hnew with h | h
    · exact hx h
    · exact absurd (Heap.lt_size e) (Nat.not_lt.mpr h)
  have neS : ∀ b u, H b = some u → b ≠ c := fun b u e z => by rw [z, hn] at e; cases e
  refine ⟨I.ok, I.os, I.bare, ⟨I.base.keep, I.base.slot, fun b ob e n hx => ?_, I.base.there, fun b xs e => ?_, fun b o2 u e => ?_, fun b ps e => ?_⟩, I.loc, I.cell, ?_, fun x d e => ?_, fun p hp => ?_, ?_, I.len⟩
  · rw [upd_ne (n0 b ob e hx)]; exact I.base.free b ob e n hx
  · have q := I.base.tups b xs e
    rw [upd_ne (neS b _ q)]; exact q
  · have q := I.base.frzs b o2 u e
    rw [upd_ne (neS b _ q)]; exact q
  · obtain ⟨m, q⟩ := I.base.tbls b ps e
    exact ⟨m, by rw [upd_ne (neS b _ q)]; exact q⟩
  · rw [upd_ne (Ne.symm hL)]; exact I.free
  · rw [upd_ne (hC x d e)]; exact I.freeC x d e
  · obtain ⟨e, n, ne, nf, dd⟩ := I.pin p hp
    exact ⟨e, by rw [upd_ne (hP p hp)]; exact n, ne, nf, dd⟩
  · exact HOk.laidN I.hok (fun _ _ e => e) hn ⟨ho, ⟨o, ho⟩, fun h1 h2 e k => k o e⟩
theorem inv_unraw (I : Inv X pins σ (upd H c (rawO c o)) s) (hn : H c = none) (fx : FpX X c) : Inv X pins σ H s ∧ s.heap.get? c = some o ∧ FpOk X pins H c := by
  obtain ⟨hL, hF, hnew, hC⟩ := fx
  have hc : upd H c (rawO c o) c = some (rawO c o) := upd_same
  have n0 : ∀ b ob, X.s_0.heap.get? b = some ob → b ∉ X.ex → b ≠ c := fun b ob e hx z => by
    subst z
    rcases hnew with h | h
    · exact hx h
    · exact absurd (Heap.lt_size e) (Nat.not_lt.mpr h)
  have hp : ∀ p ∈ X.pn ++ pins, p.1 ≠ c := fun p hp z => by
    have := (I.pin p hp).2.1
    rw [z, hc] at this; cases this
  obtain ⟨e0, _, _⟩ := I.hok c _ hc
  have dn : ∀ b, b ≠ c → upd H c (rawO c o) b = H b := fun b h => upd_ne h
  have dT : ∀ b xs, upd H c (rawO c o) b = some (.tup xs) → H b = some (.tup xs) := fun b xs e => by
    rw [← dn b (fun z => by rw [z, hc] at e; cases e)]; exact e
  have dO : ∀ b a, upd H c (rawO c o) b = some (.own a) → H b = some (.own a) := fun b a e => by
    rw [← dn b (fun z => by rw [z, hc] at e; cases e)]; exact e
  refine ⟨⟨I.ok, I.os, I.bare, ⟨I.base.keep, I.base.slot, fun b ob e n hx => ?_, I.base.there, fun b xs e => dT b xs (I.base.tups b xs e), fun b o2 u e => ?_, fun b ps e => ?_⟩, I.loc, I.cell, ?_, fun x d e => ?_, fun p h => ?_, fun b u e => ?_, I.len⟩, e0, hn, hL, hF, hnew, hC, hp⟩
  · rw [← dn b (n0 b ob e hx)]; exact I.base.free b ob e n hx
  · have q := I.base.frzs b o2 u e
    rw [← dn b (fun z => by rw [z, hc] at q; cases q)]; exact q
  · obtain ⟨m, q⟩ := I.base.tbls b ps e
    exact ⟨m, by rw [← dn b (fun z => by rw [z, hc] at q; cases q)]; exact q⟩
  · rw [← dn _ (Ne.symm hL)]; exact I.free
  · rw [← dn _ (hC x d e)]; exact I.freeC x d e
  · obtain ⟨e, n, ne, nf, dd⟩ := I.pin p h
    exact ⟨e, by rw [← dn _ (hp p h)]; exact n, ne, nf, dd⟩
  · have hb : b ≠ c := fun z => by rw [z, hn] at e; cases e
    have e2 : upd H c (rawO c o) b = some u := by rw [dn b hb]; exact e
    exact (I.hok b u e2).stay (fun d v hd q => q) (fun d q => dO _ _ q) fun d xs q => dT _ _ q
end
def trk (H : Hp) : List (Addr × Obj) → Hp
  | [] => H
  | p :: ps => upd (trk H ps) p.1 (rawO p.1 p.2)
theorem trk_none {H : Hp} {b : Addr} : ∀ {ps : List (Addr × Obj)}, (∀ p ∈ ps, p.1 ≠ b) → trk H ps b = H b
  | [], _ => rfl
  | p :: ps, h => by
    show upd (trk H ps) p.1 _ b = _
    rw [upd_ne (Ne.symm (h p List.mem_cons_self))]
    exact trk_none fun q hq => h q (List.mem_cons_of_mem _ hq)
section
variable {X : Cx} {pins : List (Addr × Obj)} {σ : L2.St} {H : Hp} {s : Shared}
theorem inv_trk (I : Inv X pins σ H s) : ∀ {ps : List (Addr × Obj)}, (ps.map (·.1)).Nodup → (∀ p ∈ ps, s.heap.get? p.1 = some p.2 ∧ FpOk X pins H p.1) → Inv X pins σ (trk H ps) s
  | [], _, _ => I
  | p :: ps, nd, h => by
    rw [List.map_cons, List.nodup_cons] at nd
    have J := inv_trk I nd.2 fun q hq => h q (List.mem_cons_of_mem _ hq)
    obtain ⟨e, f⟩ := h p List.mem_cons_self
    have ne : ∀ q ∈ ps, q.1 ≠ p.1 := fun q hq z => nd.1 (by rw [← z]; exact List.mem_map.mpr ⟨q, hq, rfl⟩)
    exact inv_raw J e ⟨by rw [trk_none ne]; exact f.1, f.2⟩
theorem inv_untrk : ∀ {ps : List (Addr × Obj)}, (ps.map (·.1)).Nodup → (∀ p ∈ ps, H p.1 = none ∧ FpX X p.1) → Inv X pins σ (trk H ps) s → Inv X pins σ H s ∧ ∀ p ∈ ps, s.heap.get? p.1 = some p.2 ∧ FpOk X pins H p.1
  | [], _, _, I => ⟨I, by simp⟩
  | p :: ps, nd, h, I => by
    rw [List.map_cons, List.nodup_cons] at nd
    have ne : ∀ q ∈ ps, q.1 ≠ p.1 := fun q hq z => nd.1 (by rw [← z]; exact List.mem_map.mpr ⟨q, hq, rfl⟩)
    obtain ⟨hn, fx⟩ := h p List.mem_cons_self
    obtain ⟨J, e, f⟩ := inv_unraw (show Inv X pins σ (upd (trk H ps) p.1 (rawO p.1 p.2)) s from I) (by rw [trk_none ne]; exact hn) fx
    obtain ⟨J2, g⟩ := inv_untrk nd.2 (fun q hq => h q (List.mem_cons_of_mem _ hq)) J
    refine ⟨J2, fun q hq => ?_⟩
    rw [List.mem_cons] at hq
    rcases hq with rfl | hq
    · exact ⟨e, hn, f.2⟩
    · exact g q hq
end
/-- a zip object made over a and b, and what belongs to it -/
def ZO (X : Cx) (k1 k2 : Bool) (n1 n2 : Nat) (a b : Addr) (H : Hp) (z : Addr) (ps : List (Addr × Obj)) : Prop :=
  ∃ tn : Nat → Heap → Prop, (∀ (elts : List Expr) (kk : Nat) (tp : Pos), Turn X.prog X.w X.K (.Tuple elts kk tp) (ItX X.K k1 k2 n1 n2 a b) (ps.map (·.1)) z tn) ∧ (∀ h : Heap, (∀ p ∈ ps, h.get? p.1 = some p.2) → tn 0 h) ∧ (∀ p ∈ ps, H p.1 = none ∧ FpX X p.1) ∧ (ps.map (·.1)).Nodup
def tZip (X : Cx) (ta : TA) : TE := fun σ H Q => ta σ H fun vs H1 => ∃ k1 k2 a b xs ys, vs = [.ref a, .ref b] ∧ SqK k1 X.K H1 a xs ∧ SqK k2 X.K H1 b ys ∧ ∀ z ps, ZO X k1 k2 xs.length ys.length a b H1 z ps → Q (.ref z) (trk H1 ps)
theorem nd5 (n : Nat) : [n + 4, n + 2, n + 3, n, n + 1].Nodup := by
  refine List.nodup_cons.mpr ⟨fun h => ?_, List.nodup_cons.mpr ⟨fun h => ?_, List.nodup_cons.mpr ⟨fun h => ?_, List.nodup_cons.mpr ⟨fun h => ?_, List.nodup_cons.mpr ⟨by simp, List.nodup_nil⟩⟩⟩⟩⟩
  all_goals (simp only [List.mem_cons, List.not_mem_nil, or_false] at h; omega)
theorem get_all {h : Heap} : ∀ {fp : List Addr}, (∀ b ∈ fp, ∃ o, h.get? b = some o) → ∃ ps : List (Addr × Obj), ps.map (·.1) = fp ∧ ∀ p ∈ ps, h.get? p.1 = some p.2
  | [], _ => ⟨[], rfl, by simp⟩
  | b :: fp, hh => by
    obtain ⟨o, e⟩ := hh b List.mem_cons_self
    obtain ⟨ps, e1, e2⟩ := get_all fun c hc => hh c (List.mem_cons_of_mem _ hc)
    refine ⟨(b, o) :: ps, by rw [List.map_cons, e1], fun p hp => ?_⟩
    rw [List.mem_cons] at hp
    rcases hp with rfl | hp
    · exact e
    · exact e2 p hp
theorem pe_zipO {X : Cx} {e e2 : Expr} {ta : TA} {p pos : Pos} (hg : Gl X "zip") (hm : X.mg "zip" = none) (ha : PA X [e, e2] ta)
    (hs : starEach [e, e2] X.env = (false, eval e X.env) :: starEach [e2] X.env := by rfl) (hpl : (backTo pos (starEach [e2] X.env)).any (·.1) = false := by rfl) :
    PE X (.Call (.Name "zip" p) [e, e2] [] pos) (tZip X ta) := by
  refine ⟨fun pins s σ H R I h => ?_⟩
  refine Call_ (ld_blt I hg hm PyProof.Rows.boot_zip (PyProof.Rows.callWith_type1 (thn (ha.run pos pins s σ H _ I h) fun us s1 ⟨vs, H1, I1, r1, k1, k2, a, b, xs, ys, ex, qx, qy, q⟩ => ?_) hs hpl))
  subst ex
  cases r1 with
  | cons r rr =>
    cases rr with
    | cons r' rr =>
      cases rr; cases r; cases r'
      obtain ⟨its, rv, pp, la⟩ := sqK_items k1 I1 qx
      obtain ⟨its2, rv2, pp2, lb⟩ := sqK_items k2 I1 qy
      obtain ⟨o1, B1, b1⟩ := begK k1 a its.toArray
      obtain ⟨o2, B2, b2⟩ := begK k2 b its2.toArray
      refine zip_begins2 B1 B2 pp pp2 fun h' hz hTI hTO g1 g2 hsz hk => ?_
      have I2 : Inv X pins σ H1 { s1 with heap := h' } := I1.kept (t' := s1.toks) hk
      have S : ZipSep2 (s1.heap.objs.size + 4) (s1.heap.objs.size + 2) (s1.heap.objs.size + 3) s1.heap.objs.size (s1.heap.objs.size + 1) [s1.heap.objs.size, a] [s1.heap.objs.size + 1, b] := zip_sep2 (fun c hc => by rw [List.mem_singleton] at hc; subst hc; exact la) (fun c hc => by rw [List.mem_singleton] at hc; subst hc; exact lb)
      have T := fun (elts : List Expr) (kk : Nat) (tpos : Pos) => turn_zipX (P := X.prog) (w := X.w) (K := X.K) (elts := elts) (kk := kk) (tpos := tpos) k1 k2 xs.length ys.length S (Nat.ne_of_lt la) (Nat.ne_of_lt (Nat.lt_succ_of_lt lb))
      have t0 : (fun i h => IsZip h (s1.heap.objs.size + 4) (s1.heap.objs.size + 2) (s1.heap.objs.size + 3) .none ∧ IsTupOf2 h (s1.heap.objs.size + 2) (.ref s1.heap.objs.size) (.ref (s1.heap.objs.size + 1)) ∧ (∃ x y, IsTupOf2 h (s1.heap.objs.size + 3) x y) ∧ itK k1 h s1.heap.objs.size a i ∧ itK k2 h (s1.heap.objs.size + 1) b i ∧ i ≤ xs.length ∧ i ≤ ys.length) 0 h' := ⟨hz, hTI, ⟨_, _, hTO⟩, b1 _ _ g1, b2 _ _ g2, Nat.zero_le _, Nat.zero_le _⟩
      obtain ⟨ps, e1, e2⟩ := get_all (h := h') (fp := [s1.heap.objs.size + 4, s1.heap.objs.size + 2, s1.heap.objs.size + 3, s1.heap.objs.size, s1.heap.objs.size + 1]) fun c hc => by
        obtain ⟨o, e, _⟩ := (T [] 0 default).obj 0 h' t0 c hc
        exact ⟨o, e⟩
      have fo : ∀ p ∈ ps, FpOk X pins H1 p.1 := fun p hp => by
        have hc : p.1 ∈ ps.map (·.1) := List.mem_map.mpr ⟨p, hp, rfl⟩
        rw [e1] at hc
        have hle : s1.heap.objs.size ≤ p.1 := by
          simp only [List.mem_cons, List.not_mem_nil, or_false] at hc
          rcases hc with h | h | h | h | h <;> rw [h] <;> omega
        exact I1.fpOk hle (I1.hok.fresh hle)
      have nd : (ps.map (·.1)).Nodup := by
        rw [e1]
        exact nd5 s1.heap.objs.size
      have zo : ZO X k1 k2 xs.length ys.length a b H1 (s1.heap.objs.size + 4) ps := ⟨_, fun elts kk tp => by rw [e1]; exact T elts kk tp, fun h hh => (T [] 0 default).keep 0 h' h t0 fun c hc o ec => by
        have hc2 : c ∈ ps.map (·.1) := by rw [e1]; exact hc
        obtain ⟨p, hp, rfl⟩ := List.mem_map.mp hc2
        rw [e2 p hp] at ec; cases ec
        exact hh p hp, fun p hp => ⟨(fo p hp).1, fpX_of (fo p hp)⟩, nd⟩
      exact ⟨.ref (s1.heap.objs.size + 4), trk H1 ps, inv_trk I2 nd fun p hp => ⟨e2 p hp, fo p hp⟩, rfl, q _ ps zo⟩
/-- over a variable that holds such an object -/
def iZipV (X : Cx) (i : Nat) : TI := fun σ H R => ∃ z ps k1 k2 n1 n2 a b H1, σ[i]? = some (some (.ref z)) ∧ H = trk H1 ps ∧ ZO X k1 k2 n1 n2 a b H1 z ps ∧ R (ItX X.K k1 k2 n1 n2 a b) H1
theorem pi_zipV {X : Cx} {i : Nat} {x : Str} {elts : List Expr} {kk : Nat} {tpos pos : Pos} (hN : X.N[i]? = some x) (hv : Vis X.env.scope x) (hd : (x == ("__debug__" : Str)) = false) (hcd : (x == ("__classdict__" : Str)) = false) : PI X (.Tuple elts kk tpos) (.Name x pos) (iZipV X i) := by
  refine ⟨fun pins s σ H R I h => ?_⟩
  obtain ⟨z, ps, k1, k2, n1, n2, a, b, H1, ez, eH, ⟨tn, T, t0, fx, nd⟩, r⟩ := h
  subst eH
  refine thn ((pe_var (pos := pos) hN hv hd hcd).run pins s σ (trk H1 ps) (fun v H' => v = .ref z ∧ H' = trk H1 ps) I ⟨_, ez, rfl, rfl⟩) fun u s1 ⟨v, H2, I2, rv, ev, e2⟩ => ?_
  subst ev e2
  cases rv
  obtain ⟨J, g⟩ := inv_untrk nd fx I2
  have t1 : tn 0 s1.heap := t0 s1.heap fun p hp => (g p hp).1
  refine (T elts kk tpos).self _ 0 s1 _ _ t1 ⟨z, ps.map (·.1), tn, _, H1, rfl, J, T elts kk tpos, t1, fun c hc => ?_, r⟩
  obtain ⟨p, hp, rfl⟩ := List.mem_map.mp hc
  exact (g p hp).2
end DL
end
section
set_option Elab.async false
set_option linter.all false
set_option maxRecDepth 100000
set_option maxHeartbeats 4000000
/-! DL34: the rule over data for x = zip(a, b); return all([.. for .. in x]). -/
namespace DL
open PySem PySem.Spec PyProof.Rows L2
section
variable {c : Cf} {e a b : Expr} {es : List Expr} {Q : D → Prop} {T : Te} {Δ : Dl} {pos : Pos}
/-- a comprehension's turns, from the state in which its iterator stands (the inner half of lc_run) -/
theorem lc_in {elt tg : Expr} {ifs : List Expr} {scope : Scope} {own : List (Str × Nat)} {items : List D} {I : List D → List D → Prop} {J : It} (hz : items.length ≤ sizeLine) (i0 : I [] [])
    (turn : ∀ pre x post acc, items = pre ++ x :: post → acc.length ≤ pre.length → I pre acc → WG (c.blk scope) (own.map (·.2)) tg x (fun Δ2 => WTs (c.blk scope) ifs (fun k => if k = true then WE (c.blk scope) elt (fun y => I (pre ++ [x]) (acc ++ [y])) Δ2 else I (pre ++ [x]) acc) Δ2) (wipeD Δ (own.map (·.2))))
    (fin : ∀ acc, acc.length ≤ items.length → I items acc → Q (.ol acc))
    (hh : c.hot = none) {X H0 Z0} (hX : CtxOk c H0 Z0 X) {σ : L2.St} {H1 : Hp} {Z1 : Sh} (hS : Slots c.K H0 Z0 σ H1 Z1 Δ) (yl : Yl c.K J H1 Z1 items) :
    ∀ Dl, H1 Dl = none → ∃ W : Nat → Nat → Hp → Prop, (∃ m, W 0 m (upd H1 Dl (.lst []))) ∧ ∀ i m H, W i m H →
      (J.stop i H ∧ oPost c.K H1 Z1 Q (.ref Dl) H) ∨ (J.go i H ∧ ∃ Nx : Hp → Prop, (∀ H', Nx H' → ∃ m', m' < m ∧ W (i + 1) m' H') ∧ ∀ x H', J.yld i H x H' → Bg X scope tg x (wipe σ (own.map (·.2))) H' fun σ2 H2 => wipe σ2 (own.map (·.2)) = wipe σ (own.map (·.2)) ∧ Bt X scope ifs σ2 H2 fun b H3 =>
        if b = true then Be X scope elt σ2 H3 fun y H4 => ∃ acc, H4 Dl = some (.lst acc) ∧ acc.length < sizeLine ∧ Nx (upd H4 Dl (.lst (acc ++ [y]))) else Nx H3) := by
  intro Dl hD
  refine ⟨fun i m H' => m = items.length - i ∧ i ≤ items.length ∧ ∃ Z' vs acc, Stp H1 Z1 H' Z' ∧ Z' Dl = none ∧ H' Dl = some (.lst vs) ∧ Rps c.K Z' vs acc ∧ acc.length ≤ i ∧ I (items.take i) acc, ⟨items.length, by simp, Nat.zero_le _, Z1, [], [], .new hS.ok hD, hS.ok.none hD, upd_same, .nil, Nat.zero_le _, i0⟩, ?_⟩
  rintro i m H' ⟨rfl, hi, Z', vs, acc, st, zD, hD', rr, hl, ii⟩
  cases e : items[i]? with
  | none =>
    have hi' : i = items.length := by have := List.getElem?_eq_none_iff.mp e; omega
    subst hi'
    rw [List.take_length] at ii
    exact .inl ⟨(yl H' Z' st.le st.ok _).2 e, Z', .ol acc, st, .inr ⟨Dl, _, rfl, .of hD, zD, hD', .lst rr⟩, fin acc hl ii⟩
  | some x =>
    obtain ⟨go, yld⟩ := (yl H' Z' st.le st.ok i).1 x e
    have hlt : i < items.length := (List.getElem?_eq_some_iff.mp e).1
    have split : items = items.take i ++ x :: items.drop (i + 1) := by
      have h2 := (List.getElem?_eq_some_iff.mp e).2
      rw [← h2, ← List.drop_eq_getElem_cons hlt, List.take_append_drop]
    have snoc : items.take (i + 1) = items.take i ++ [x] := by
      have h2 := (List.getElem?_eq_some_iff.mp e).2
      rw [List.take_succ_eq_append_getElem hlt, h2]
    refine .inr ⟨go, fun H2 => i + 1 ≤ items.length ∧ ∃ Z' vs acc, Stp H1 Z1 H2 Z' ∧ Z' Dl = none ∧ H2 Dl = some (.lst vs) ∧ Rps c.K Z' vs acc ∧ acc.length ≤ i + 1 ∧ I (items.take (i + 1)) acc, fun H2 ⟨a1, a2⟩ => ⟨items.length - (i + 1), by omega, rfl, a1, a2⟩, fun v H2 y => ?_⟩
    obtain ⟨Z2, s2, rx⟩ := yld v H2 y
    have hS2 : Slots c.K H0 Z0 (wipe σ (own.map (·.2))) H2 Z2 (wipeD Δ (own.map (·.2))) := ((hS.step st).step s2).wipe _
    have hlen : (items.take i).length = i := by rw [List.length_take]; omega
    have tn := turn (items.take i) x (items.drop (i + 1)) acc split (by rw [hlen]; exact hl) ii
    intro s0 Hb C cl fp
    refine (tn _ H0 Z0 (hX.blk hh s0 Hb C cl fp) _ H2 Z2 v hS2 rx).mono fun σ3 H3 ⟨Z3, Δ3, s3, hS3, ks, q3⟩ => ⟨?_, ?_⟩
    · have e1 := wipe_same (σ := wipe σ (own.map (·.2))) (τ := σ3) ks.1 ks.2
      rw [e1]
      exact wipe_same (wipe_length _ _) fun i hi => wipe_get hi
    · intro s0 Hb C cl fp
      refine (wts_run q3 (hX.blk hh s0 Hb C cl fp) hS3).mono fun k H4 ⟨Z4, s4, q4⟩ => ?_
      have stp : Stp H1 Z1 H4 Z4 := ((st.trans s2).trans s3).trans s4
      have s234 := (s2.trans s3).trans s4
      have nl : Nbo (.lst vs) := ⟨fun ps e => (nomatch e), fun c q e => (nomatch (show _ = HO.ext _ from e)), fun vs e => (nomatch e)⟩
      have kept := s234.keep Dl _ hD' zD nl
      cases k with
      | true =>
        rw [if_pos rfl] at q4 ⊢
        intro s0 Hb C cl fp
        refine (q4 _ H0 Z0 (hX.blk hh s0 Hb C cl fp) _ H4 Z4 (hS3.step s4)).mono fun w H5 ⟨Z5, y, s5, ry, q5⟩ => ?_
        have k5 := s5.keep Dl _ kept.1 kept.2 nl
        have rr5 := (rr.le s234.le).le s5.le
        refine ⟨vs, k5.1, ?_, hlt, Z5, vs ++ [w], acc ++ [y], (stp.trans s5).own (.of hD) k5.2, k5.2, upd_same, rr5.append (.cons ry .nil), ?_, ?_⟩
        · rw [rr.length]; omega
        · rw [List.length_append]; show acc.length + 1 ≤ i + 1; omega
        · rw [snoc]; exact q5
      | false =>
        rw [if_neg Bool.false_ne_true] at q4 ⊢
        exact ⟨hlt, Z4, vs, acc, stp, kept.2, kept.1, rr.le s234.le, by omega, by rw [snoc]; exact q4⟩
/-- x = zip(a, b); return all([elt for tg in x]) -/
theorem wb_zipAll {x : Str} {elt : Expr} {ts : List Expr} {kk : Nat} {tp px p2 p3 p4 p5 p6 p7 p8 p9 : Pos} {scope : Scope} (i : Nat) (own : List (Str × Nat)) (ok : blkB c.N c.sc scope own = true)
    (hil : i < Δ.length) (hi : c.N[i]? = some x) (hx : Loc c.sc x) (hv : Vis c.sc x) (hgz : Glo c "zip") (hmz : c.mg "zip" = none) (hga : Glo c "all") (hma : c.mg "all" = none)
    (h : WE c a (fun u => WE c b (fun v => ∃ xs ys, IsSeq u xs ∧ IsSeq v ys ∧ (pairs xs ys).length ≤ sizeLine ∧ ∃ I : List D → List D → Prop, I [] [] ∧
      (∀ pre y post acc, pairs xs ys = pre ++ y :: post → acc.length ≤ pre.length → I pre acc → WG (c.blk scope) (own.map (·.2)) (.Tuple ts kk tp) y (fun Δ2 => WTs (c.blk scope) [] (fun k => if k = true then WE (c.blk scope) elt (fun y2 => I (pre ++ [y]) (acc ++ [y2])) Δ2 else I (pre ++ [y]) acc) Δ2) (wipeD (Δ.set i none) (own.map (·.2)))) ∧
      ∀ acc, acc.length ≤ (pairs xs ys).length → I (pairs xs ys) acc → ∃ bs : List Bool, acc = bs.map D.bl ∧ T.rt (.bl (bs.all id)) (Δ.set i none)) Δ) Δ)
    (hst : c.st x = true := by rfl) (hs : isStar a = false := by rfl) (hs2 : isStar b = false := by rfl) (hh : c.hot = none := by rfl) (hd : (x == ("__debug__" : Str)) = false := by decide) (hcd : (x == ("__classdict__" : Str)) = false := by decide)
    (hsw : ∀ env, swapsWith (.Call (.Name "zip" p2) [a, b] [] p3) (some (.Name x px)) p4.line env = pure false := by intro _; rfl) (hfs : ∀ env y, foldedSetIterable (.Name x p6) env y = pure y := by intro _ _; rfl) :
    WB c [.Assign [.Name x px] (.Call (.Name "zip" p2) [a, b] [] p3) p4, .Return (some (.Call (.Name "all" p5) [.ListComp elt [⟨.Tuple ts kk tp, .Name x p6, [], 0⟩] scope p7] [] p8)) p9] T Δ := fun X H0 Z0 hX σ H Z hS => by
  have hXo := hX.toCtxOk
  refine Wss.of (pss_cons (ps_set (by rw [hX.N]; exact hX.nd) (by rw [hX.N]; exact hi) (hXo.loc hx) (pe_zipO (hXo.gl hgz) (by rw [hX.mg]; exact hmz) (pa_cons pe_we (pa_cons pe_we pa_nil (star1 hs2)) (star1 hs)) (star1 hs) (by rw [star1 hs2]; rfl)) (hsw _) (by rw [hX.sc]; exact hX.fn x hst hx))
    (pss_one (ps_ret (pe_callB call_any (hXo.gl hga) (by rw [hX.mg]; exact hma) boot_all (pa_cons (pe_lc (hXo.calm hh) (by rw [hX.N]; exact hX.nd) (pi_zipV (i := i) (by rw [hX.N]; exact hi) (by rw [hX.sc]; exact hv) hd hcd) (by rw [hX.N, hX.sc]; exact blkOk_of ok) pg_b pt_b pe_b (hfs X.env)) pa_nil))))) ?_
  refine (h X H0 Z0 hXo σ H Z hS).mono fun v H1 ⟨Z1, u, s1, r1, q1⟩ => ?_
  refine (q1 X H0 Z0 hXo σ H1 Z1 (hS.step s1)).mono fun v2 H2 ⟨Z2, u2, s2, r2, xs, ys, hx1, hy1, hlen, I, i0, turn, fin⟩ => ?_
  obtain ⟨k1, pa, vs, rfl, rr1, g1⟩ := seqK s2.ok hx1 (r1.le s2.le)
  obtain ⟨k2, pb, ws, rfl, rr2, g2⟩ := seqK s2.ok hy1 r2
  refine ⟨k1, k2, pa, pb, vs, ws, rfl, by rw [hX.K]; exact g1 H2 Z2 (.refl _) s2.ok, by rw [hX.K]; exact g2 H2 Z2 (.refl _) s2.ok, fun z ps zo => ?_⟩
  have hS2 : Slots c.K H0 Z0 σ H2 Z2 Δ := (hS.step s1).step s2
  have hlt : i < σ.length := by
    rw [hS.len]; exact hil
  have hS3 : Slots c.K H0 Z0 (σ.set i (some (.ref z))) H2 Z2 (Δ.set i none) := by
    have := (hS2.set i (v := .ref z) (d := .adr z) .adr).drop i
    rw [List.set_set] at this
    exact this
  refine ⟨z, ps, k1, k2, vs.length, ws.length, pa, pb, H2, by rw [List.getElem?_set_self hlt], rfl, zo, ?_⟩
  have yl : Yl c.K (ItX X.K k1 k2 vs.length ws.length pa pb) H2 Z2 (pairs xs ys) := fun H' Z' le ok i => ⟨fun d hd => ?_, fun hn => ?_⟩
  rotate_left
  · obtain ⟨x, y, hx, hy, rfl⟩ := pairs_get hd
    obtain ⟨vx, ex, rx⟩ := rr1.get hx
    obtain ⟨vy, ey, ry⟩ := rr2.get hy
    rw [hX.K]
    refine ⟨⟨vs, ws, vx, vy, g1 H' Z' le ok, g2 H' Z' le ok, rfl, rfl, ex, ey⟩, fun v H'' ⟨T, x', y', ev, hT, eH, g1', g2'⟩ => ?_⟩
    subst ev eH
    have e1 := g1' vs (g1 H' Z' le ok)
    have e2 := g2' ws (g2 H' Z' le ok)
    rw [ex] at e1; rw [ey] at e2
    cases e1; cases e2
    have s3 : Stp H' Z' (upd H' T (.tup [vx, vy])) (shr Z' T (fz (.tup [vx, vy]))) := .newS ok hT rfl
    exact ⟨_, s3, .tup shr_same (.cons ((rx.le le).le s3.le) (.cons ((ry.le le).le s3.le) .nil))⟩
  · rw [hX.K]
    refine ⟨vs, ws, g1 H' Z' le ok, g2 H' Z' le ok, rfl, rfl, ?_⟩
    rw [rr1.length, rr2.length]; exact pairs_none hn
  intro Dl hD
  obtain ⟨W, w0, wt⟩ := lc_in (Q := fun d => ∃ acc, d = .ol acc ∧ ∃ bs : List Bool, acc = bs.map D.bl ∧ T.rt (.bl (bs.all id)) (Δ.set i none)) hlen i0 turn (fun acc hl hI => ⟨acc, rfl, fin acc hl hI⟩) hh hXo hS3 yl Dl hD
  refine ⟨W, w0, fun j m Hj hW => ?_⟩
  rcases wt j m Hj hW with ⟨st, Z3, d, s3, r3, acc, rfl, bs, rfl, q⟩ | go
  · refine .inl ⟨st, ?_⟩
    obtain ⟨Z4, _, s4, r4⟩ := r3.freeze s3
    obtain ⟨r, hr, q5⟩ := vc_all (c := c) (bs := bs) (Q := fun d => d = .bl (bs.all id)) rfl hh X H0 Z0 hXo Hj Z4 [.ref Dl] s4.ok (.cons r4 .nil)
    refine ⟨fun xs H Q0 => xs = [.ref Dl] ∧ H = Hj ∧ r [.ref Dl] Hj (oPost c.K Hj Z4 fun d => d = .bl (bs.all id)) ∧ ∀ z H', oPost c.K Hj Z4 (fun d => d = .bl (bs.all id)) z H' → Q0 z H', fun pins s σ H xs us Q0 I rx ⟨ex, eH, k, m⟩ => ?_, rfl, rfl, q5, fun v3 H3 ⟨Z5, d5, s5, r5, e5⟩ => ?_⟩
    · subst ex; subst eH
      exact thn (hr pins s σ _ _ us _ I rx k) fun _ _ ⟨z, H', I', rz, qz⟩ => ⟨z, H', I', rz, m z H' qz⟩
    · subst e5
      exact ⟨Z5, _, _, _, (hS3.step s4).step s5, r5.base hS3.ok0 ((hS3.step s4)).stp, q⟩
  · exact .inr go
end
end DL
end
section
set_option Elab.async false
set_option linter.all false
set_option maxRecDepth 100000
set_option maxHeartbeats 4000000
/-! DL35: xs.append(ys.pop(i)), xs and ys lists of one's own. -/
namespace DL
open PySem PySem.Spec PyProof.Rows L2
theorem Rps.erase {K : PySem.W.Frag} {Z : Sh} : ∀ {vs : List V} {ds : List D} (k : Nat), Rps K Z vs ds → Rps K Z (vs.eraseIdx k) (ds.eraseIdx k)
  | _, _, _, .nil => .nil
  | _ :: _, _ :: _, 0, .cons _ t => t
  | _ :: _, _ :: _, k + 1, .cons r t => .cons r (Rps.erase k t)
section
variable {c : Cf} {e a b : Expr} {es : List Expr} {Q : D → Prop} {T : Te} {Δ : Dl} {pos : Pos}
theorem ws_appPop (i j : Nat) {x y : Str} {p ap cp p2 ap2 cp2 : Pos} {ds es : List D} (hij : i ≠ j) (hN : c.N[i]? = some x) (hv : Vis c.sc x) (hi : Δ[i]? = some (some (.ol ds))) (hN2 : c.N[j]? = some y) (hv2 : Vis c.sc y) (hj : Δ[j]? = some (some (.ol es)))
    (h : WE c e (fun ix => ∃ (n : Int) (k : Nat) (d : D), ix = .int n ∧ -(2 ^ 63) ≤ n ∧ n < 2 ^ 63 ∧ seqIndex? n es.length = some k ∧ es[k]? = some d ∧ ds.length < sizeLine ∧ T.nx ((Δ.set j (some (.ol (es.eraseIdx k)))).set i (some (.ol (ds ++ [d]))))) Δ)
    (hse : isStar e = false := by rfl) (hline : (ap.endLine == cp.line) = true := by rfl) (hline2 : (ap2.endLine == cp2.line) = true := by rfl) (hs : ∀ env, swapsWith (.Call (.Attribute (.Name x p) "append" ap) [.Call (.Attribute (.Name y p2) "pop" ap2) [e] [] cp2] [] cp) none pos.line env = pure false := by intro _; rfl)
    (hd : (x == ("__debug__" : Str)) = false := by decide) (hcd : (x == ("__classdict__" : Str)) = false := by decide) (hd2 : (y == ("__debug__" : Str)) = false := by decide) (hcd2 : (y == ("__classdict__" : Str)) = false := by decide) :
    WS c (.Expr (.Call (.Attribute (.Name x p) "append" ap) [.Call (.Attribute (.Name y p2) "pop" ap2) [e] [] cp2] [] cp) pos) T Δ := fun X H0 Z0 hX σ H Z hS => by
  refine Ws.of (ps_expr (pe_bm PySem.F.plainAttrs_list PySem.F.slot_list_append PySem.F.type_list_append mt_append (pe_var (i := i) (by rw [hX.N]; exact hN) (by rw [hX.sc]; exact hv) hd hcd)
    (pa_cons (pe_bm PySem.F.plainAttrs_list PySem.F.slot_list_pop PySem.F.type_list_pop mt_popAt (pe_var (i := j) (by rw [hX.N]; exact hN2) (by rw [hX.sc]; exact hv2) hd2 hcd2) (pa_cons pe_we pa_nil (star1 hse)) rfl (by rw [star1 hse]; rfl) hline2 (star1 hse) rfl) pa_nil (star1 rfl)) rfl (by rw [star1 rfl]; rfl) hline (star1 rfl) rfl) (hs _)) ?_
  obtain ⟨l, o, e1, h0, zl, hl, r⟩ := hS.getO hi rfl
  obtain ⟨l2, o2, e2, h02, zl2, hl2, r2⟩ := hS.getO hj rfl
  have hne : l ≠ l2 := fun z => by
    subst z
    exact hij (hS.sep i j _ _ l hi hj rfl rfl e1 e2)
  cases r with
  | lst rr =>
    cases r2 with
    | lst rr2 =>
      rename_i vs vs2
      refine ⟨_, e1, .inl ⟨rfl, _, .of hl⟩, _, e2, .inl ⟨rfl, _, .of hl2⟩, ?_⟩
      refine (h X H0 Z0 hX.toCtxOk σ H Z hS).mono fun v H1 ⟨Z1, ix, s1, ry, n, k, d, ei, n1, n2, hk, hd, hz, q⟩ => ?_
      subst ei
      cases ry
      have nb : ∀ us : List V, Nbo (.lst us) := fun us => ⟨fun ps e => (nomatch e), fun c q e => (nomatch (show _ = HO.ext _ from e)), fun vs e => (nomatch e)⟩
      have k1 := s1.keep l _ hl zl (nb _)
      have k2 := s1.keep l2 _ hl2 zl2 (nb _)
      obtain ⟨w, ew, rw_⟩ := (rr2.le s1.le).get hd
      have S1 := (hS.step s1).put hj rfl e2 (.lst (Rps.erase k (rr2.le s1.le)))
      have hi2 : (Δ.set j (some (.ol (es.eraseIdx k))))[i]? = some (some (.ol ds)) := by rw [List.getElem?_set_ne (Ne.symm hij)]; exact hi
      have S2 := S1.put hi2 rfl e1 (.lst ((rr.le s1.le).append (.cons rw_ .nil)))
      refine ⟨l2, vs2, n, k, w, rfl, rfl, k2.1, n1, n2, by rw [rr2.length]; exact hk, ew, l, vs, w, rfl, rfl, ?_, by rw [rr.length]; exact hz, Z1, _, s1.le, S2, q⟩
      rw [upd_ne hne]; exact k1.1
end
end DL
end
section
set_option Elab.async false
set_option linter.all false
set_option maxRecDepth 100000
set_option maxHeartbeats 4000000
/-! DL36: min of a list of ints; repr of lists. -/
namespace DL
open PySem PySem.Spec PyProof.Rows L2 PySem.W
theorem minOf_ints : ∀ (xs : List Int) (x : Int), minOf x xs ∈ x :: xs ∧ ∀ y ∈ x :: xs, minOf x xs ≤ y
  | [], x => ⟨by show x ∈ [x]; simp, fun y hy => by rw [List.mem_singleton] at hy; subst hy; exact Int.le_refl _⟩
  | z :: xs, x => by
    have e : minOf x (z :: xs) = minOf (if z < x then z else x) xs := by
      unfold minOf
      rw [List.foldl_cons]
      congr 1
      show (if decide (z < x) = true then z else x) = _
      by_cases h : z < x <;> simp [h]
    rw [e]
    obtain ⟨h1, h2⟩ := minOf_ints xs (if z < x then z else x)
    have h3 := h2 _ List.mem_cons_self
    refine ⟨?_, fun y hy => ?_⟩
    · rcases List.mem_cons.mp h1 with h | h
      · rw [h]
        by_cases hx : z < x
        · rw [if_pos hx]; simp
        · rw [if_neg hx]; simp
      · exact List.mem_cons_of_mem _ (List.mem_cons_of_mem _ h)
    · rcases List.mem_cons.mp hy with rfl | hy
      · by_cases hx : z < y
        · rw [if_pos hx] at h3 ⊢; omega
        · rw [if_neg hx] at h3 ⊢; exact h3
      · rcases List.mem_cons.mp hy with rfl | hy
        · by_cases hx : y < x
          · rw [if_pos hx] at h3 ⊢; exact h3
          · rw [if_neg hx] at h3 ⊢; omega
        · exact h2 y (List.mem_cons_of_mem _ hy)
def rMinL (K : PySem.W.Frag) : List V → Hp → VK → Prop := fun vs H Q => ∃ (a : Addr) (ns : List Int), vs = [V.ref a] ∧ SqL K H a (ns.map V.int) ∧ 0 < ns.length ∧ ∀ m, m ∈ ns → (∀ y ∈ ns, m ≤ y) → Q (.int m) H
section
variable {X : Cx}
theorem cr_minL (hc : X.calm = true) (hu : X.A.units + 2 < cLine) : CallR X (.builtin "min") (rMinL X.K) := by
  intro pins s σ H vs us Q I r h
  obtain ⟨a, ns, rfl, hs, hn, q⟩ := h
  obtain ⟨its, rv, hl, _⟩ := I.list hs
  rw [Vals.ref1 r]
  have hi := rv.ints
  cases ns with
  | nil => cases hn
  | cons x xs =>
    obtain ⟨m1, m2⟩ := minOf_ints xs x
    refine min_list_datum (α := Int) (x := x) (xs := xs) (I.ok.hd hc) hl.isList (HoldAll.of_ints (by simpa using hi)) (by show X.A.units + 1 + 0 < cLine; omega) fun i v h' tk hv hh k => ?_
    obtain ⟨t, e⟩ := PyProof.Rows.IntsAre.int_at hi i v (by simpa using hv)
    subst e
    obtain ⟨as, rr⟩ := hh
    have ev : (x :: xs).getD i 0 = minOf x xs := by
      generalize (x :: xs).getD i 0 = z at rr
      generalize minOf x xs = y at rr
      have rr : Reads h' (.int z t) (.int y) as := rr
      cases rr; rfl
    rw [ev]
    exact ⟨.int _, H, I.kept k, ⟨_, rfl⟩, q _ m1 m2⟩
end
section
variable {c : Cf} {Q : D → Prop}
theorem vc_minL {ns : List Int} (hn : 0 < ns.length) (q : ∀ m, m ∈ ns → (∀ y ∈ ns, m ≤ y) → Q (.int m)) (hh : c.hot = none := by rfl) : VC c (.builtin "min") [.lst (ns.map D.int)] Q := fun X _ _ hX H Z vs ok r => by
  obtain ⟨v, rfl, r1⟩ := r.one
  obtain ⟨p, ws, rfl, hp, _, rr⟩ := r1.lst_inv ok
  exact ⟨_, cr_minL (hX.calm hh) (by have := (hX.room hh).un; omega), p, ns, rfl, .of (by rw [hp, rr.of_ints]), hn, fun m h1 h2 => opost ok .int (q m h1 h2)⟩
end
theorem listText_le : ∀ ts : List Str, (listText ts).length ≤ piled ts + 2
  | [] => by show (listText []).length ≤ _; exact Nat.le_trans (show (listText []).length ≤ 2 by decide +kernel) (by omega)
  | t :: r => by
    have h := textFrom_length_pos r 1 (("[" : Str) ++ (if (0 : Nat) > 0 then ", " else "" : String) ++ t) (Nat.succ_pos 0)
    have e : ((("[" : Str) ++ (if (0 : Nat) > 0 then ", " else "" : String) ++ t)).length = 1 + t.length := by
      rw [strLen_append, strLen_append]; rfl
    have hX : (listText (t :: r)).length = (textFrom 0 "[" (t :: r)).length + 1 := by
      show (textFrom 0 "[" (t :: r) ++ "]").length = _
      rw [strLen_append]; rfl
    have hY : textFrom 0 "[" (t :: r) = textFrom 1 (("[" : Str) ++ (if (0 : Nat) > 0 then ", " else "" : String) ++ t) r := rfl
    rw [hX, hY, h, e, piled_cons]; omega
theorem Sd.lst {n m : Nat} {l : List D} (h : ∀ d ∈ l, Sd n m d) : Sd ((n + 2) * l.length + 2) (m + 1) (.lst l) := by
  obtain ⟨a, b, c, e, f⟩ := sds h
  refine ⟨a, by simp only [D.py, PyData.showable]; exact b, by simp only [D.py, PyData.hasDict]; exact c, ?_, by simp only [D.py, PyData.depth]; omega⟩
  simp only [D.py, PyData.shown]
  exact Nat.le_trans (listText_le _) (by omega)
end DL
end
section
set_option Elab.async false
set_option linter.all false
set_option maxRecDepth 100000
set_option maxHeartbeats 4000000
/-! DL37: dicts with tuple keys; frozen and locked dicts; going through the keys; a thing of one's own lent to a call. -/
namespace DL
open PySem PySem.Spec PyProof.Rows L2 PySem.W
def keyD : Key → D
  | .inl i => .int i
  | .inr x => .str x
def keysOf : List D → Option (List Key)
  | [] => some []
  | d :: l => match d.key, keysOf l with
    | some k, some r => some (k :: r)
    | _, _ => none
def D.keyT : D → Option (List Key)
  | .tup l => keysOf l
  | _ => none
theorem keysOf_rel {K : PySem.W.Frag} {Z : Sh} : ∀ {l : List D} {vs : List V} {ks : List Key}, keysOf l = some ks → Rps K Z vs l → vs = ks.map kV
  | [], _, ks, h, .nil => by cases h; rfl
  | d :: l, _, ks, h, .cons r t => by
    unfold keysOf at h
    cases e1 : d.key with
    | none => rw [e1] at h; cases h
    | some k =>
      cases e2 : keysOf l with
      | none => rw [e1, e2] at h; cases h
      | some q =>
        rw [e1, e2] at h
        cases h
        rw [List.map_cons, ← key_of e1 r, ← keysOf_rel e2 t]
theorem keyT_of {K : PySem.W.Frag} {Z : Sh} {H : Hp} {v : V} {d : D} {k : List Key} (ok : OkZ H Z) (h : d.keyT = some k) (r : Rp K Z v d) : ∃ b, v = .ref b ∧ H b = some (.tup (k.map kV)) := by
  cases d with
  | tup l =>
    obtain ⟨p, vs, rfl, hp, _, rr⟩ := r.tup_inv ok
    exact ⟨p, rfl, by rw [hp, keysOf_rel h rr]⟩
  | _ => cases h
/-- what a dict tells of a key -/
inductive DkAt : D → D → Option D → Prop
  | dK {ks : List Key} {l : List D} {y : D} {k : Key} : y.key = some k → DkAt (.dK ks l) y (lookD ks l k)
  | fK {ks : List Key} {l : List D} {y : D} {k : Key} : y.key = some k → DkAt (.fK ks l) y (lookD ks l k)
  | dT {ks : List (List Key)} {l : List D} {y : D} {k : List Key} : y.keyT = some k → DkAt (.dT ks l) y (lookD ks l k)
  | fT {ks : List (List Key)} {l : List D} {y : D} {k : List Key} : y.keyT = some k → DkAt (.fT ks l) y (lookD ks l k)
theorem look_both {κ : Type} [DecidableEq κ] {K : PySem.W.Frag} {Z : Sh} {ks : List κ} {vs : List V} {ds : List D} {k : κ} (r : Rps K Z vs ds) :
    (lookD ks ds k = none → valV (ks.zip vs) k = none) ∧ ∀ d, lookD ks ds k = some d → ∃ w, valV (ks.zip vs) k = some w ∧ Rp K Z w d := look_rel r
theorem dk_rp {K : PySem.W.Frag} {Z : Sh} {H : Hp} {v u : V} {x y : D} {o : Option D} (ok : OkZ H Z) (h : DkAt x y o) (rx : Rp K Z v x) (ry : Rp K Z u y) :
    ∃ a ow, v = .ref a ∧ DGet H a u ow ∧ IsD H a ∧ (o = none → ow = none) ∧ ∀ d, o = some d → ∃ w, ow = some w ∧ Rp K Z w d := by
  cases h with
  | dK hk =>
    cases rx with
    | dK z e r =>
      have hp := fz_at (.refl _) ok z
      obtain ⟨a, b⟩ := look_both (κ := Key) (ks := _) (k := _) r
      exact ⟨_, _, rfl, .inl ⟨_, _, .inl hp, key_of hk ry, rfl⟩, .inl ⟨_, .inl hp⟩, a, b⟩
  | fK hk =>
    cases rx with
    | fK z e r =>
      have hp := fz_at (.refl _) ok z
      obtain ⟨a, b⟩ := look_both (κ := Key) (ks := _) (k := _) r
      exact ⟨_, _, rfl, .inl ⟨_, _, .inr ⟨_, hp⟩, key_of hk ry, rfl⟩, .inl ⟨_, .inr ⟨_, hp⟩⟩, a, b⟩
  | dT hk =>
    obtain ⟨b0, eb, hb⟩ := keyT_of ok hk ry
    cases rx with
    | dT z e r =>
      have hp := fz_at (.refl _) ok z
      obtain ⟨a, b⟩ := look_both (κ := List Key) (ks := _) (k := _) r
      exact ⟨_, _, rfl, .inr ⟨_, _, b0, .inl hp, eb, hb, rfl⟩, .inr ⟨_, .inl hp⟩, a, b⟩
  | fT hk =>
    obtain ⟨b0, eb, hb⟩ := keyT_of ok hk ry
    cases rx with
    | fT z e r =>
      have hp := fz_at (.refl _) ok z
      obtain ⟨a, b⟩ := look_both (κ := List Key) (ks := _) (k := _) r
      exact ⟨_, _, rfl, .inr ⟨_, _, b0, .inr ⟨_, hp⟩, eb, hb, rfl⟩, .inr ⟨_, .inr ⟨_, hp⟩⟩, a, b⟩
section
variable {c : Cf} {e a b : Expr} {es : List Expr} {Q : D → Prop} {Δ : Dl} {pos : Pos} {T : Te} {st : Stmt} {sts : List Stmt}
/-- x[y], x any frozen dict -/
theorem we_dix (h : WE c a (fun x => WE c b (fun y => ∃ d, DkAt x y (some d) ∧ Q d) Δ) Δ) (hs : NoSl b := by exact fun _ _ => rfl) (hh : c.hot = none := by rfl) : WE c (.Subscript a b pos) Q Δ := fun X H0 Z0 hX σ H Z hS => by
  refine We.of (pe_dget (hX.hu hh) pe_we pe_we hs) ?_
  refine (h X H0 Z0 hX σ H Z hS).mono fun v H1 ⟨Z1, x, s1, rx, q1⟩ => ?_
  refine (q1 X H0 Z0 hX σ H1 Z1 (hS.step s1)).mono fun u H2 ⟨Z2, y, s2, ry, d, hk, q2⟩ => ?_
  obtain ⟨p, ow, e1, g, _, _, w1⟩ := dk_rp s2.ok hk (rx.le s2.le) ry
  obtain ⟨w, e2, rw'⟩ := w1 d rfl
  subst e2
  exact ⟨p, w, e1, g, Z2, d, s1.trans s2, rw', q2⟩
theorem isSome_eq {o : Option D} {ow : Option V} (h0 : o = none → ow = none) {K : PySem.W.Frag} {Z : Sh} (h1 : ∀ d, o = some d → ∃ w, ow = some w ∧ Rp K Z w d) : ow.isSome = o.isSome := by
  cases o with
  | none => rw [h0 rfl]; rfl
  | some d => obtain ⟨w, e, _⟩ := h1 d rfl; rw [e]; rfl
/-- y in x, y not in x, x any frozen dict -/
theorem we_din (h : WE c a (fun y => WE c b (fun x => ∃ o, DkAt x y o ∧ Q (.bl o.isSome)) Δ) Δ) (hm : behindInMarks .In b = false := by rfl) (hh : c.hot = none := by rfl) : WE c (.Compare a [.In] [b] pos) Q Δ := fun X H0 Z0 hX σ H Z hS => by
  refine We.of (pe_cmp (pc_din (hX.hu hh) pe_we pe_we) hm) ?_
  refine (h X H0 Z0 hX σ H Z hS).mono fun u H1 ⟨Z1, y, s1, ry, q1⟩ => ?_
  refine (q1 X H0 Z0 hX σ H1 Z1 (hS.step s1)).mono fun v H2 ⟨Z2, x, s2, rx, o, hk, q2⟩ => ?_
  obtain ⟨p, ow, e1, g, _, w0, w1⟩ := dk_rp s2.ok hk rx (ry.le s2.le)
  refine ⟨p, ow, e1, g, Z2, _, s1.trans s2, ?_, q2⟩
  rw [isSome_eq w0 w1]; exact .bl
theorem we_dni (h : WE c a (fun y => WE c b (fun x => ∃ o, DkAt x y o ∧ Q (.bl (!o.isSome))) Δ) Δ) (hm : behindInMarks .NotIn b = false := by rfl) (hh : c.hot = none := by rfl) : WE c (.Compare a [.NotIn] [b] pos) Q Δ := fun X H0 Z0 hX σ H Z hS => by
  refine We.of (pe_cmp (pc_dnotin (hX.hu hh) pe_we pe_we) hm) ?_
  refine (h X H0 Z0 hX σ H Z hS).mono fun u H1 ⟨Z1, y, s1, ry, q1⟩ => ?_
  refine (q1 X H0 Z0 hX σ H1 Z1 (hS.step s1)).mono fun v H2 ⟨Z2, x, s2, rx, o, hk, q2⟩ => ?_
  obtain ⟨p, ow, e1, g, _, w0, w1⟩ := dk_rp s2.ok hk rx (ry.le s2.le)
  refine ⟨p, ow, e1, g, Z2, _, s1.trans s2, ?_, q2⟩
  rw [isSome_eq w0 w1]; exact .bl
theorem wt_din {Q : Bool → Prop} (h : WE c a (fun y => WE c b (fun x => ∃ o, DkAt x y o ∧ Q o.isSome) Δ) Δ) (hm : behindInMarks .In b = false := by rfl) (hh : c.hot = none := by rfl) : WT c (.Compare a [.In] [b] pos) Q Δ := fun X H0 Z0 hX σ H Z hS => by
  refine Wt.of (pt_cmp (pc_din (hX.hu hh) pe_we pe_we) hm) ?_
  refine (h X H0 Z0 hX σ H Z hS).mono fun u H1 ⟨Z1, y, s1, ry, q1⟩ => ?_
  refine (q1 X H0 Z0 hX σ H1 Z1 (hS.step s1)).mono fun v H2 ⟨Z2, x, s2, rx, o, hk, q2⟩ => ?_
  obtain ⟨p, ow, e1, g, _, w0, w1⟩ := dk_rp s2.ok hk rx (ry.le s2.le)
  refine ⟨p, ow, e1, g, _, rfl, Z2, s1.trans s2, ?_⟩
  rw [isSome_eq w0 w1]; exact q2
theorem wt_dni {Q : Bool → Prop} (h : WE c a (fun y => WE c b (fun x => ∃ o, DkAt x y o ∧ Q (!o.isSome)) Δ) Δ) (hm : behindInMarks .NotIn b = false := by rfl) (hh : c.hot = none := by rfl) : WT c (.Compare a [.NotIn] [b] pos) Q Δ := fun X H0 Z0 hX σ H Z hS => by
  refine Wt.of (pt_cmp (pc_dnotin (hX.hu hh) pe_we pe_we) hm) ?_
  refine (h X H0 Z0 hX σ H Z hS).mono fun u H1 ⟨Z1, y, s1, ry, q1⟩ => ?_
  refine (q1 X H0 Z0 hX σ H1 Z1 (hS.step s1)).mono fun v H2 ⟨Z2, x, s2, rx, o, hk, q2⟩ => ?_
  obtain ⟨p, ow, e1, g, _, w0, w1⟩ := dk_rp s2.ok hk rx (ry.le s2.le)
  refine ⟨p, ow, e1, g, _, rfl, Z2, s1.trans s2, ?_⟩
  rw [isSome_eq w0 w1]; exact q2
/-- x.get(y), x any frozen dict -/
def D.isDict : D → Bool
  | .dK _ _ => true | .fK _ _ => true | .dT _ _ => true | .fT _ _ => true
  | _ => false
theorem isD_of {K : PySem.W.Frag} {Z : Sh} {H : Hp} {v : V} {x : D} (ok : OkZ H Z) (h : x.isDict = true) (r : Rp K Z v x) : ∃ a, v = .ref a ∧ IsD H a := by
  cases x with
  | dK ks l => cases r with | dK z e r => exact ⟨_, rfl, .inl ⟨_, .inl (fz_at (.refl _) ok z)⟩⟩
  | fK ks l => cases r with | fK z e r => exact ⟨_, rfl, .inl ⟨_, .inr ⟨_, fz_at (.refl _) ok z⟩⟩⟩
  | dT ks l => cases r with | dT z e r => exact ⟨_, rfl, .inr ⟨_, .inl (fz_at (.refl _) ok z)⟩⟩
  | fT ks l => cases r with | fT z e r => exact ⟨_, rfl, .inr ⟨_, .inr ⟨_, fz_at (.refl _) ok z⟩⟩⟩
  | _ => cases h
theorem we_dget1 {ap cp : Pos} (h : WE c a (fun x => x.isDict = true ∧ WE c b (fun y => ∃ o, DkAt x y o ∧ Q (o.getD .non)) Δ) Δ) (hsb : isStar b = false := by rfl) (hb : ∀ env w, attributeBase a "get" env w = w := by intro _ _; rfl) (hline : (ap.endLine == cp.line) = true := by rfl) (hh : c.hot = none := by rfl) :
    WE c (.Call (.Attribute a "get" ap) [b] [] cp) Q Δ := fun X H0 Z0 hX σ H Z hS => by
  refine We.of (pe_dget1 (hX.hu hh) pe_we pe_we ⟨hb _ _, by rw [star1 hsb]; rfl, hline, by rw [star1 hsb]; rfl⟩) ?_
  refine (h X H0 Z0 hX σ H Z hS).mono fun v H1 ⟨Z1, x, s1, rx, hd, q1⟩ => ?_
  obtain ⟨p, e1, hD⟩ := isD_of s1.ok hd rx
  refine ⟨p, e1, hD, ?_⟩
  refine (q1 X H0 Z0 hX σ H1 Z1 (hS.step s1)).mono fun u H2 ⟨Z2, y, s2, ry, o, hk, q2⟩ => ?_
  obtain ⟨p2, ow, e2, g, _, w0, w1⟩ := dk_rp s2.ok hk (rx.le s2.le) ry
  rw [e1] at e2; cases e2
  refine ⟨ow, g, Z2, _, s1.trans s2, ?_, q2⟩
  cases o with
  | none => rw [w0 rfl]; exact .non
  | some d => obtain ⟨w, e, r⟩ := w1 d rfl; rw [e]; exact r

/-! ### one's own dict with tuple keys -/
theorem wo_dictT (q : ∀ p : Addr, Q (.oT p [] [])) : WO c (.Dict [] [] pos) Q Δ := fun X H0 Z0 hX σ H Z hS =>
  We.of pe_dnewT fun p hp => ⟨Z, _, .new hS.ok hp, .inr ⟨p, _, rfl, .of hp, hS.ok.none hp, upd_same, .dT (ks := []) (vs := []) rfl .nil⟩, q p⟩
/-- what one's own dict tells of a key -/
inductive OkAt : D → D → Option D → Prop
  | oK {q : Addr} {ks : List Key} {l : List D} {y : D} {k : Key} : y.key = some k → OkAt (.oK q ks l) y (lookD ks l k)
  | oT {q : Addr} {ks : List (List Key)} {l : List D} {y : D} {k : List Key} : y.keyT = some k → OkAt (.oT q ks l) y (lookD ks l k)
theorem ok_rp {K : PySem.W.Frag} {Z : Sh} {H : Hp} {p : Addr} {u : V} {x y : D} {o : Option D} {ho : HO} (ok : OkZ H Z) (h : OkAt x y o) (hp : H p = some ho) (ow : Ow K Z p ho x) (ry : Rp K Z u y) :
    ∃ w, DGet H p u w ∧ (o = none → w = none) ∧ ∀ d, o = some d → ∃ w', w = some w' ∧ Rp K Z w' d := by
  cases h with
  | oK hk =>
    cases ow with
    | dK e r =>
      obtain ⟨a, b⟩ := look_both (κ := Key) (ks := _) (k := _) r
      exact ⟨_, .inl ⟨_, _, .inl hp, key_of hk ry, rfl⟩, a, b⟩
  | oT hk =>
    obtain ⟨b0, eb, hb⟩ := keyT_of ok hk ry
    cases ow with
    | dT e r =>
      obtain ⟨a, b⟩ := look_both (κ := List Key) (ks := _) (k := _) r
      exact ⟨_, .inr ⟨_, _, b0, .inl hp, eb, hb, rfl⟩, a, b⟩
theorem OkAt.own {x y : D} {o : Option D} (h : OkAt x y o) : x.own = true := by cases h <;> rfl
theorem we_oix (i : Nat) {x : Str} {p : Pos} {d0 : D} (hN : c.N[i]? = some x) (hv : Vis c.sc x) (hi : Δ[i]? = some (some d0)) (ho : d0.own = true) (h : WE c b (fun y => ∃ d, OkAt d0 y (some d) ∧ Q d) Δ) (hs : NoSl b := by exact fun _ _ => rfl)
    (hd : (x == ("__debug__" : Str)) = false := by decide) (hcd : (x == ("__classdict__" : Str)) = false := by decide) (hh : c.hot = none := by rfl) : WE c (.Subscript (.Name x p) b pos) Q Δ := fun X H0 Z0 hX σ H Z hS => by
  refine We.of (pe_dget (hX.hu hh) (pe_var (i := i) (by rw [hX.N]; exact hN) (by rw [hX.sc]; exact hv) hd hcd) pe_we hs) ?_
  obtain ⟨l', o, e1, h0, zl, hl, ow⟩ := hS.getO hi ho
  refine ⟨_, e1, ?_⟩
  refine (h X H0 Z0 hX σ H Z hS).mono fun v H1 ⟨Z1, y, s1, ry, d, hk, qq⟩ => ?_
  have kk := s1.keep l' o hl zl ow.nbo
  obtain ⟨w, g, _, w1⟩ := ok_rp s1.ok hk kk.1 (ow.le s1.le) ry
  obtain ⟨w', e2, rw'⟩ := w1 d rfl
  subst e2
  exact ⟨_, w', rfl, g, Z1, d, s1, rw', qq⟩
theorem we_oin (i : Nat) {x : Str} {p : Pos} {d0 : D} (hN : c.N[i]? = some x) (hv : Vis c.sc x) (hi : Δ[i]? = some (some d0)) (ho : d0.own = true) (h : WE c a (fun y => ∃ o, OkAt d0 y o ∧ Q (.bl o.isSome)) Δ)
    (hd : (x == ("__debug__" : Str)) = false := by decide) (hcd : (x == ("__classdict__" : Str)) = false := by decide) (hh : c.hot = none := by rfl) : WE c (.Compare a [.In] [.Name x p] pos) Q Δ := fun X H0 Z0 hX σ H Z hS => by
  refine We.of (pe_cmp (pc_din (hX.hu hh) pe_we (pe_var (i := i) (by rw [hX.N]; exact hN) (by rw [hX.sc]; exact hv) hd hcd)) rfl) ?_
  refine (h X H0 Z0 hX σ H Z hS).mono fun v H1 ⟨Z1, y, s1, ry, o, hk, qq⟩ => ?_
  obtain ⟨l', ob, e1, h0, zl, hl, ow⟩ := (hS.step s1).getO hi ho
  obtain ⟨w, g, w0, w1⟩ := ok_rp s1.ok hk hl ow ry
  refine ⟨_, e1, _, w, rfl, g, Z1, _, s1, ?_, qq⟩
  rw [isSome_eq w0 w1]; exact .bl
theorem we_oni (i : Nat) {x : Str} {p : Pos} {d0 : D} (hN : c.N[i]? = some x) (hv : Vis c.sc x) (hi : Δ[i]? = some (some d0)) (ho : d0.own = true) (h : WE c a (fun y => ∃ o, OkAt d0 y o ∧ Q (.bl (!o.isSome))) Δ)
    (hd : (x == ("__debug__" : Str)) = false := by decide) (hcd : (x == ("__classdict__" : Str)) = false := by decide) (hh : c.hot = none := by rfl) : WE c (.Compare a [.NotIn] [.Name x p] pos) Q Δ := fun X H0 Z0 hX σ H Z hS => by
  refine We.of (pe_cmp (pc_dnotin (hX.hu hh) pe_we (pe_var (i := i) (by rw [hX.N]; exact hN) (by rw [hX.sc]; exact hv) hd hcd)) rfl) ?_
  refine (h X H0 Z0 hX σ H Z hS).mono fun v H1 ⟨Z1, y, s1, ry, o, hk, qq⟩ => ?_
  obtain ⟨l', ob, e1, h0, zl, hl, ow⟩ := (hS.step s1).getO hi ho
  obtain ⟨w, g, w0, w1⟩ := ok_rp s1.ok hk hl ow ry
  refine ⟨_, e1, _, w, rfl, g, Z1, _, s1, ?_, qq⟩
  rw [isSome_eq w0 w1]; exact .bl
theorem wt_oin {Q : Bool → Prop} (i : Nat) {x : Str} {p : Pos} {d0 : D} (hN : c.N[i]? = some x) (hv : Vis c.sc x) (hi : Δ[i]? = some (some d0)) (ho : d0.own = true) (h : WE c a (fun y => ∃ o, OkAt d0 y o ∧ Q o.isSome) Δ)
    (hd : (x == ("__debug__" : Str)) = false := by decide) (hcd : (x == ("__classdict__" : Str)) = false := by decide) (hh : c.hot = none := by rfl) : WT c (.Compare a [.In] [.Name x p] pos) Q Δ := fun X H0 Z0 hX σ H Z hS => by
  refine Wt.of (pt_cmp (pc_din (hX.hu hh) pe_we (pe_var (i := i) (by rw [hX.N]; exact hN) (by rw [hX.sc]; exact hv) hd hcd)) rfl) ?_
  refine (h X H0 Z0 hX σ H Z hS).mono fun v H1 ⟨Z1, y, s1, ry, o, hk, qq⟩ => ?_
  obtain ⟨l', ob, e1, h0, zl, hl, ow⟩ := (hS.step s1).getO hi ho
  obtain ⟨w, g, w0, w1⟩ := ok_rp s1.ok hk hl ow ry
  refine ⟨_, e1, _, w, rfl, g, _, rfl, Z1, s1, ?_⟩
  rw [isSome_eq w0 w1]; exact qq
theorem wt_oni {Q : Bool → Prop} (i : Nat) {x : Str} {p : Pos} {d0 : D} (hN : c.N[i]? = some x) (hv : Vis c.sc x) (hi : Δ[i]? = some (some d0)) (ho : d0.own = true) (h : WE c a (fun y => ∃ o, OkAt d0 y o ∧ Q (!o.isSome)) Δ)
    (hd : (x == ("__debug__" : Str)) = false := by decide) (hcd : (x == ("__classdict__" : Str)) = false := by decide) (hh : c.hot = none := by rfl) : WT c (.Compare a [.NotIn] [.Name x p] pos) Q Δ := fun X H0 Z0 hX σ H Z hS => by
  refine Wt.of (pt_cmp (pc_dnotin (hX.hu hh) pe_we (pe_var (i := i) (by rw [hX.N]; exact hN) (by rw [hX.sc]; exact hv) hd hcd)) rfl) ?_
  refine (h X H0 Z0 hX σ H Z hS).mono fun v H1 ⟨Z1, y, s1, ry, o, hk, qq⟩ => ?_
  obtain ⟨l', ob, e1, h0, zl, hl, ow⟩ := (hS.step s1).getO hi ho
  obtain ⟨w, g, w0, w1⟩ := ok_rp s1.ok hk hl ow ry
  refine ⟨_, e1, _, w, rfl, g, _, rfl, Z1, s1, ?_⟩
  rw [isSome_eq w0 w1]; exact qq
/-- x[y] = e, tuple keys -/
theorem ws_putT (i : Nat) {x : Str} {p p2 : Pos} {q : Addr} {ks : List (List Key)} {l : List D} (hN : c.N[i]? = some x) (hv : Vis c.sc x) (hi : Δ[i]? = some (some (.oT q ks l)))
    (h : WE c e (fun y => WE c b (fun kd => ∃ k, kd.keyT = some k ∧ ks.length < sizeLine ∧ T.nx (Δ.set i (some (.oT q (putKs ks k) (putDs ks l k y))))) Δ) Δ) (hs : ∀ env, swapsWith e (some (.Subscript (.Name x p) b p2)) pos.line env = pure false := by intro _; rfl)
    (hd : (x == ("__debug__" : Str)) = false := by decide) (hcd : (x == ("__classdict__" : Str)) = false := by decide) (hh : c.hot = none := by rfl) : WS c (.Assign [.Subscript (.Name x p) b p2] e pos) T Δ := fun X H0 Z0 hX σ H Z hS => by
  refine Ws.of (ps_dput (hX.hu hh) (pe_var (i := i) (by rw [hX.N]; exact hN) (by rw [hX.sc]; exact hv) hd hcd) pe_we pe_we (hs _)) ?_
  refine (h X H0 Z0 hX.toCtxOk σ H Z hS).mono fun v H1 ⟨Z1, y, s1, ry, q1⟩ => ?_
  have hS1 := hS.step s1
  obtain ⟨l', o, e1, h0, zl, hl, ow⟩ := hS1.getO hi rfl
  refine ⟨_, e1, ?_⟩
  refine (q1 X H0 Z0 hX.toCtxOk σ H1 Z1 hS1).mono fun u H2 ⟨Z2, kd, s2, rk, k, hk, hz, qq⟩ => ?_
  have kk := s2.keep l' o hl zl ow.nbo
  obtain ⟨b0, eb, hb⟩ := keyT_of s2.ok hk rk
  subst eb
  cases ow with
  | dT el rr =>
    obtain ⟨ws, hw1, hw2, hw3⟩ := put_rel (k := k) (ry.le s2.le) el (rr.le s2.le)
    refine ⟨_, _, rfl, .t kk.1 hb (by rw [List.length_zip, ← el, Nat.min_self]; exact hz), Z2, _, s1.le.trans s2.le, ?_, qq⟩
    rw [hw1]
    exact (hS1.step s2).put hi rfl e1 (.dT hw2 hw3)
end
end DL
end
section
set_option Elab.async false
set_option linter.all false
set_option maxRecDepth 100000
set_option maxHeartbeats 4000000
/-! DL38: locked dicts and their keys; a thing of one's own lent to a call; starred items; sorted of tuples. -/
namespace DL
open PySem PySem.Spec PyProof.Rows L2 PySem.W
theorem share_tup {H : Hp} {Z : Sh} {q : Addr} {vs : List V} (ok : OkZ H Z) (h : H q = some (.tup vs)) : ∃ Z', Stp H Z H Z' ∧ Z' q = some (fz (.tup vs)) := by
  cases e : Z q with
  | some φ => exact ⟨Z, .refl ok, by rw [e, ok.tp q φ vs e h]⟩
  | none =>
    have nt : Nt (fz (HO.tup vs)) := .fz fun ps z => nomatch z
    refine ⟨shr Z q (fz (.tup vs)), ⟨Le.shr e, ⟨fun a ψ z => ?_, fun a ψ us z hz => ?_, fun a sp z => by
      by_cases ha : a = q
      · subst ha; rw [shr_same] at z; exact absurd (Option.some.inj z) (Nk.fz sp)
      · rw [shr_ne ha] at z; exact (ok.kp a sp z).le (Le.shr e) fun o e2 _ => e2⟩, fun a o ho z n => ?_, fun P q' t => t.le (Le.shr e) (t.1.shr nt), fun P q' z => (shr_tab nt z).2, fun a o ho n => ⟨o, ho, n⟩⟩, shr_same⟩
    · by_cases ha : a = q
      · subst ha; rw [shr_same] at z; cases z; exact ⟨_, h, rfl⟩
      · rw [shr_ne ha] at z; exact ok a ψ z
    · by_cases ha : a = q
      · subst ha; rw [shr_same] at z; cases z; rw [h] at hz; cases hz; rfl
      · rw [shr_ne ha] at z; exact ok.tp a ψ us z hz
    · have ha : a ≠ q := fun e2 => by subst e2; rw [h] at ho; cases ho; exact n.2.2 vs rfl
      exact ⟨ho, by rw [shr_ne ha]; exact z⟩
theorem keyD_rp {K : PySem.W.Frag} {Z : Sh} : ∀ k : Key, Rp K Z (kV k) (keyD k)
  | .inl i => .int
  | .inr x => .str
theorem keyD_rps {K : PySem.W.Frag} {Z : Sh} : ∀ k : List Key, Rps K Z (k.map kV) (k.map keyD)
  | [] => .nil
  | x :: k => .cons (keyD_rp x) (keyD_rps k)
theorem keyD_key : ∀ k : Key, (keyD k).key = some k
  | .inl _ => rfl
  | .inr _ => rfl
theorem keysOf_keyD : ∀ k : List Key, keysOf (k.map keyD) = some k
  | [] => rfl
  | x :: k => by
    show (match (keyD x).key, keysOf (k.map keyD) with | some k, some r => some (k :: r) | _, _ => none) = _
    rw [keyD_key, keysOf_keyD]
theorem Slots.locks {K : PySem.W.Frag} {H0 : Hp} {Z0 : Sh} {σ : L2.St} {H : Hp} {Z : Sh} {Δ : Dl} (h : Slots K H0 Z0 σ H Z Δ) {i : Nat} {d : D} (e : Δ[i]? = some (some d)) (ho : d.own = true) :
    ∃ l o, Z l = none ∧ H l = some o ∧ Ow K Z l o d ∧ ∀ (od : Obj) (d' : D), (∀ Z2, Le Z Z2 → Z2 l = some (fz (.frz od o)) → Rp K Z2 (.ref l) d') → Slots K H0 Z0 σ (upd H l (.frz od o)) (shr Z l (fz (.frz od o))) (Δ.set i (some d')) := by
  obtain ⟨l, o, e1, h0, zl, hl, r⟩ := h.getO e ho
  have le : ∀ φ, Le Z (shr Z l φ) := fun φ => Le.shr zl
  refine ⟨l, o, zl, hl, r, fun od d' rp => ?_⟩
  have rp := rp _ (le _) shr_same
  refine ⟨h.ok0, (h.stp.own h0 zl).share h0 zl upd_same rfl (.fz fun ps z => nomatch z), by simp [h.len], fun j dd q => ?_, fun j j' d1 d2 a q1 q2 o1 o2 s1 s2 => ?_⟩
  · rcases setAt q with ⟨hj, e2, _⟩ | ⟨hj, q⟩
    · subst hj; cases e2
      exact ⟨_, e1, .inl rp⟩
    · obtain ⟨v', e2, r'⟩ := h.at_ j dd q
      refine ⟨v', e2, ?_⟩
      rcases r' with r' | ⟨l', o', rfl, h0', z', hl', r'⟩
      · exact .inl (r'.le (le _))
      · have ne : l' ≠ l := fun z => hj (h.sep i j _ _ l e q ho r'.own e1 (by rw [← z]; exact e2))
        exact .inr ⟨l', o', rfl, h0', by rw [shr_ne ne]; exact z', by rw [upd_ne ne]; exact hl', r'.le (le _)⟩
  · have g : ∀ {m : Nat} {dd : D}, (Δ.set i (some d'))[m]? = some (some dd) → dd.own = true → Δ[m]? = some (some dd) := fun {m dd} q o' => by
      rcases setAt q with ⟨_, e2, _⟩ | ⟨_, p⟩
      · cases e2
        rw [not_own rp] at o'; cases o'
      · exact p
    exact h.sep j j' d1 d2 a (g q1 o1) (g q2 o2) o1 o2 s1 s2
def D.tupR : D → Bool
  | .ol l => tupOnlys l | .oK _ _ l => tupOnlys l | .oT _ _ l => tupOnlys l
  | d => d.tupOnly
theorem Ow.unshr {K : PySem.W.Frag} {Z : Sh} {p q : Addr} {ob o : HO} {d : D} (z : Z p = some (fz ob)) (no : ∀ vs, ob ≠ .tup vs) (h : d.tupR = true) (r : Ow K Z q o d) : Ow K (unshr Z p) q o d := by
  cases r with
  | lst r => exact .lst (Rps.unshr z no h r)
  | dK e r => exact .dK e (Rps.unshr z no h r)
  | dT e r => exact .dT e (Rps.unshr z no h r)
  | ins e r => cases h
section
variable {c : Cf} {e a b : Expr} {es : List Expr} {Q : D → Prop} {Δ : Dl} {pos : Pos} {T : Te} {st : Stmt} {sts : List Stmt}
/-- one's own dict, locked for good -/
theorem ws_lockT (i : Nat) {q : Addr} {ks : List (List Key)} {l : List D} (hi : Δ[i]? = some (some (.oT q ks l))) (h : WB c sts T (Δ.set i (some (.fT ks l)))) : WB c sts T Δ := fun X H0 Z0 hX σ H Z hS pins s I => by
  obtain ⟨l', o, zl, hl, ow, k⟩ := hS.locks hi rfl
  cases ow with
  | dT e r =>
    obtain ⟨od, I2⟩ := I.lock hl True.intro
    exact thn (h X H0 Z0 hX σ _ _ (k od (.fT ks l) fun Z2 le z => .fT z e (r.le le)) pins s I2) fun f s' q => lift_le (Le.shr zl) q
theorem ws_lockK (i : Nat) {q : Addr} {ks : List Key} {l : List D} (hi : Δ[i]? = some (some (.oK q ks l))) (h : WB c sts T (Δ.set i (some (.fK ks l)))) : WB c sts T Δ := fun X H0 Z0 hX σ H Z hS pins s I => by
  obtain ⟨l', o, zl, hl, ow, k⟩ := hS.locks hi rfl
  cases ow with
  | dK e r =>
    obtain ⟨od, I2⟩ := I.lock hl True.intro
    exact thn (h X H0 Z0 hX σ _ _ (k od (.fK ks l) fun Z2 le z => .fK z e (r.le le)) pins s I2) fun f s' q => lift_le (Le.shr zl) q
/-- a new dict, locked for good -/
theorem we_lockT (h : WO c e (fun d => ∃ q ks l, d = .oT q ks l ∧ Q (.fT ks l)) Δ) : WE c e Q Δ := fun X H0 Z0 hX σ H Z hS pins s I => by
  refine thn (h X H0 Z0 hX σ H Z hS pins s I) fun u s' ⟨v, H', I', rv, Z', d, st, rr, q, ks, l, ed, qq⟩ => ?_
  subst ed
  rcases rr with rr | ⟨p, o, rfl, fr, zp, hp, ow⟩
  · cases rr
  · cases ow with
    | dT e r =>
      obtain ⟨od, I2⟩ := I'.lock hp True.intro
      exact ⟨_, _, I2, rv, _, .fT ks l, (st.own fr zp).share (φ := fz (.frz od _)) fr zp upd_same rfl (.fz fun ps z => nomatch z), .fT shr_same e (r.le (Le.shr zp)), qq⟩
theorem we_lockK (h : WO c e (fun d => ∃ q ks l, d = .oK q ks l ∧ Q (.fK ks l)) Δ) : WE c e Q Δ := fun X H0 Z0 hX σ H Z hS pins s I => by
  refine thn (h X H0 Z0 hX σ H Z hS pins s I) fun u s' ⟨v, H', I', rv, Z', d, st, rr, q, ks, l, ed, qq⟩ => ?_
  subst ed
  rcases rr with rr | ⟨p, o, rfl, fr, zp, hp, ow⟩
  · cases rr
  · cases ow with
    | dK e r =>
      obtain ⟨od, I2⟩ := I'.lock hp True.intro
      exact ⟨_, _, I2, rv, _, .fK ks l, (st.own fr zp).share (φ := fz (.frz od _)) fr zp upd_same rfl (.fz fun ps z => nomatch z), .fK shr_same e (r.le (Le.shr zp)), qq⟩
/-- through the keys of a locked dict -/
theorem wi_fT {tg : Expr} {Q : List D → Prop} (h : WE c e (fun d => ∃ ks l, d = .fT ks l ∧ Q (ks.map fun k => .tup (k.map keyD))) Δ) : WI c tg e Q Δ := fun X H0 Z0 hX σ H Z hS => by
  refine Wi.of (pi_keys pe_we) ((h X H0 Z0 hX σ H Z hS).mono fun v H1 ⟨Z1, d, s1, r1, ks, l, ed, q⟩ => ?_)
  subst ed
  cases r1 with
  | fT z ee r =>
    rename_i p o vs
    have hp := fz_at (.refl _) s1.ok z
    refine ⟨_, _, rfl, .inr ⟨_, hp, Z1, _, s1, fun H' Z' le ok i => ⟨fun x hx => ?_, fun hn => ⟨fz_at le ok z, ?_⟩⟩, q⟩⟩
    · rw [List.getElem?_map] at hx
      cases hk : ks[i]? with
      | none => rw [hk] at hx; cases hx
      | some k =>
        rw [hk] at hx; cases hx
        have hi : i < ks.length := (List.getElem?_eq_some_iff.mp hk).1
        refine ⟨⟨fz_at le ok z, by rw [List.length_zip, ← ee, Nat.min_self]; exact hi⟩, fun v H'' ⟨e1, k2, v2, b, hkv, ev, hb⟩ => ?_⟩
        subst e1; subst ev
        have e3 : k2 = k := by
          have := (List.getElem?_zip_eq_some.mp hkv).1
          rw [hk] at this; cases this; rfl
        subst e3
        obtain ⟨Z2, s2, z2⟩ := share_tup ok hb
        exact ⟨Z2, s2, .tup z2 (keyD_rps k2)⟩
    · have := List.getElem?_eq_none_iff.mp hn
      rw [List.length_map] at this
      rw [List.length_zip, ← ee, Nat.min_self]; exact this
theorem wi_fK {tg : Expr} {Q : List D → Prop} (h : WE c e (fun d => ∃ ks l, d = .fK ks l ∧ Q (ks.map keyD)) Δ) : WI c tg e Q Δ := fun X H0 Z0 hX σ H Z hS => by
  refine Wi.of (pi_keys pe_we) ((h X H0 Z0 hX σ H Z hS).mono fun v H1 ⟨Z1, d, s1, r1, ks, l, ed, q⟩ => ?_)
  subst ed
  cases r1 with
  | fK z ee r =>
    rename_i p o vs
    have hp := fz_at (.refl _) s1.ok z
    refine ⟨_, _, rfl, .inl ⟨_, hp, Z1, _, s1, fun H' Z' le ok i => ⟨fun x hx => ?_, fun hn => ⟨fz_at le ok z, ?_⟩⟩, q⟩⟩
    · rw [List.getElem?_map] at hx
      cases hk : ks[i]? with
      | none => rw [hk] at hx; cases hx
      | some k =>
        rw [hk] at hx; cases hx
        have hi : i < ks.length := (List.getElem?_eq_some_iff.mp hk).1
        refine ⟨⟨fz_at le ok z, by rw [List.length_zip, ← ee, Nat.min_self]; exact hi⟩, fun v H'' ⟨e1, k2, v2, hkv, ev⟩ => ?_⟩
        subst e1; subst ev
        have e3 : k2 = k := by
          have := (List.getElem?_zip_eq_some.mp hkv).1
          rw [hk] at this; cases this; rfl
        subst e3
        exact ⟨Z', .refl ok, keyD_rp k2⟩
    · have := List.getElem?_eq_none_iff.mp hn
      rw [List.length_map] at this
      rw [List.length_zip, ← ee, Nat.min_self]; exact this
/-- a thing of one's own, lent while e is reckoned; what comes of it holds tuples alone -/
theorem wo_lendO (i : Nat) {d : D} (hi : Δ[i]? = some (some d)) (ho : d.own = true) (h : WO c e (fun r => r.tupR = true ∧ Q r) (Δ.set i (some d.frz))) : WO c e Q Δ := fun X H0 Z0 hX σ H Z hS => by
  obtain ⟨p, o, zl, hl, hS2, ow⟩ := hS.letsO hi ho
  have nb := ow.nbo
  refine (h X H0 Z0 hX σ H _ hS2).mono fun v H' ⟨Z', r, s, rr, pt, q⟩ => ⟨_, r, DL.borrow zl hl nb s, ?_, q⟩
  have zp := s.le p _ shr_same
  rcases rr with rr | ⟨l', o', rfl, fr, z', hl', ow'⟩
  · have pt2 : r.tupOnly = true := by
      have := not_own rr
      cases r <;> first | exact pt | cases this
    exact .inl (Rp.unshr zp nb.2.2 pt2 rr)
  · refine .inr ⟨l', o', rfl, fr, ?_, hl', ow'.unshr zp nb.2.2 pt⟩
    unfold DL.unshr
    by_cases hq : l' = p
    · rw [if_pos hq]
    · rw [if_neg hq]; exact z'
/-- *e in a tuple or a call -/
theorem wa_star {p : Pos} {Q : List D → Prop} (h : WE c e (fun x => ∃ l, (x = .tup l ∨ x = .lst l) ∧ WA c es (fun ds => Q (l ++ ds)) Δ) Δ) : WA c (.Starred e p :: es) Q Δ := fun X H0 Z0 hX σ H Z hS => by
  refine Wa.of (StX.pa_star pe_we pa_we) ((h X H0 Z0 hX σ H Z hS).mono fun v H1 ⟨Z1, x, s1, rx, l, ex, q1⟩ => ?_)
  have fin : ∀ vs, Rps c.K Z1 vs l → Wa X es σ H1 (fun ys H2 => aPost c.K H Z Q (vs ++ ys) H2) := fun vs rr => (q1 X H0 Z0 hX σ H1 Z1 (hS.step s1)).mono fun us H2 ⟨Z2, ds, s2, rs, q⟩ => ⟨Z2, l ++ ds, s1.trans s2, (rr.le s2.le).append rs, q⟩
  rcases ex with rfl | rfl
  · obtain ⟨p, vs, rfl, hp, _, rr⟩ := rx.tup_inv s1.ok
    exact ⟨p, vs, rfl, .inl (.of hp), fin vs rr⟩
  · obtain ⟨p, vs, rfl, hp, _, rr⟩ := rx.lst_inv s1.ok
    exact ⟨p, vs, rfl, .inr (.of hp), fin vs rr⟩
end
/-! ### sorted of tuples of ints -/
def tI (ns : List Int) : D := .tup (ns.map D.int)
theorem Rps.permT {K : PySem.W.Frag} {Z : Sh} {xs ys : List V} (h : ys.Perm xs) : ∀ {l : List (List Int)}, Rps K Z xs (l.map tI) → ∃ m : List (List Int), m.Perm l ∧ Rps K Z ys (m.map tI) := by
  induction h with
  | nil => intro l r; exact ⟨l, .refl _, r⟩
  | cons x _ ih =>
    intro l r
    match l, r with
    | a :: l, .cons r t =>
      obtain ⟨m, pm, rm⟩ := ih t
      exact ⟨a :: m, .cons a pm, .cons r rm⟩
  | swap x y _ =>
    intro l r
    match l, r with
    | a :: b :: l, .cons r (.cons r2 t) => exact ⟨b :: a :: l, .swap a b l, .cons r2 (.cons r t)⟩
  | trans _ _ ih1 ih2 =>
    intro l r
    obtain ⟨m, pm, rm⟩ := ih2 r
    obtain ⟨m2, pm2, rm2⟩ := ih1 rm
    exact ⟨m2, pm2.trans pm, rm2⟩
theorem tupI_of {K : PySem.W.Frag} {Z : Sh} {H : Hp} {v : V} {ns : List Int} (ok : OkZ H Z) (r : Rp K Z v (tI ns)) : TupI K H v ns := by
  obtain ⟨p, vs, rfl, hp, _, rr⟩ := r.tup_inv ok
  exact ⟨p, rfl, .of (by rw [hp, rr.of_ints])⟩
theorem pair_of {K : PySem.W.Frag} {Z : Sh} {H : Hp} (ok : OkZ H Z) {B : Int} : ∀ {ys : List V} {m : List (List Int)}, Rps K Z ys (m.map tI) → ys.Pairwise (fun x y => ∀ n m, TupI K H x n → TupI K H y m → TS.code B n ≤ TS.code B m) → m.Pairwise fun x y => TS.code B x ≤ TS.code B y
  | [], [], .nil, _ => .nil
  | v :: ys, a :: m, .cons r t, h => by
    rw [List.pairwise_cons] at h ⊢
    refine ⟨fun b hb => ?_, pair_of ok t h.2⟩
    obtain ⟨j, hj, ej⟩ := List.getElem_of_mem hb
    have e : (m.map tI)[j]? = some (tI b) := by rw [List.getElem?_map, List.getElem?_eq_getElem hj, ej]; rfl
    obtain ⟨w, hw, rw'⟩ := t.get e
    exact h.1 w (List.mem_of_getElem? hw) a b (tupI_of ok r) (tupI_of ok rw')
section
variable {c : Cf} {Q : D → Prop}
theorem vc_sortT {d : Nat} {B : Int} {l : List (List Int)} (hd : 1 ≤ d) (h64 : l.length < 64) (hl : ∀ ns ∈ l, ns.length = d ∧ TS.Bd B ns) (q : ∀ m : List (List Int), m.Perm l → m.Pairwise (fun x y => TS.code B x ≤ TS.code B y) → Q (.ol (m.map tI))) : VC c (.builtin "sorted") [.lst (l.map tI)] Q := fun X _ _ hX H Z vs ok r => by
  obtain ⟨v, rfl, r1⟩ := r.one
  obtain ⟨p, ws, rfl, hp, _, rr⟩ := r1.lst_inv ok
  refine ⟨_, cr_sortT (d := d) (B := B) hd, p, ws, rfl, .of hp, by rw [rr.length, List.length_map]; exact h64, fun x hx => ?_, fun ys p' hperm hpw hp' => ?_⟩
  · obtain ⟨j, hj, ej⟩ := List.getElem_of_mem hx
    obtain ⟨dd, hd', rd⟩ := rr.getV (List.getElem?_eq_getElem hj)
    rw [List.getElem?_map] at hd'
    cases hk : l[j]? with
    | none => rw [hk] at hd'; cases hd'
    | some ns =>
      rw [hk] at hd'; cases hd'
      rw [ej] at rd
      obtain ⟨h1, h2⟩ := hl ns (List.mem_of_getElem? hk)
      exact ⟨ns, by rw [hX.K]; exact tupI_of ok rd, h1, h2⟩
  · obtain ⟨m, pm, rm⟩ := rr.permT hperm
    rw [hX.K] at hpw
    exact opost_newL ok hp' rm (q m pm (pair_of ok rm hpw))
end
end DL
end
section
set_option Elab.async false
set_option linter.all false
set_option maxRecDepth 100000
set_option maxHeartbeats 4000000
/-! DL39: < of alike data. -/
namespace DL
open PySem PySem.Spec PyProof.Rows L2 PySem.W
def rLtD (K : PySem.W.Frag) : R2 := fun x y H Q => ∃ d e, Dp K H x d ∧ Dp K H y e ∧ alike d e = true ∧ d ≠ .none ∧ min d.depth e.depth ≤ 64 ∧ Q (.bl (dataLt d e)) H
theorem op_ltD {X : Cx} (hu : X.A.units + 65 < cLine) : OpR X (compareOp .Lt) (rLtD X.K) := by
  intro pins s σ H x y v u Q I rx ry h
  obtain ⟨d, e, hd, he, ha, hn, hm, q⟩ := h
  obtain ⟨as, r1⟩ := Dp.reads I d x v hd rx
  obtain ⟨bs, r2⟩ := Dp.reads I e y u he ry
  have R := rcLt_alike d e X.A s v u as bs r1 r2 ha hn (by omega)
  have z : wpAny (model X.prog X.w) X.A (compareOp .Lt v u) (EP X pins σ Q) X.xe s := R X.prog X.w X.xe (EP X pins σ Q) ⟨.bl _, H, I, rfl, q⟩
  exact z
section
variable {c : Cf} {Q : D → Prop}
theorem vo_ltD {x y : D} (hx : x.pure = true) (hy : y.pure = true) (ha : alike x.py y.py = true) (hn : x.py ≠ .none) (hm : min x.py.depth y.py.depth ≤ 64) (q : Q (.bl (dataLt x.py y.py))) (hh : c.hot = none := by rfl) : VO c (compareOp .Lt) x y Q := fun X _ _ hX H Z v u ok r1 r2 =>
  ⟨_, op_ltD (room_in (hX.room hh)), x.py, y.py, by rw [hX.K]; exact dp_of ok x hx r1, by rw [hX.K]; exact dp_of ok y hy r2, ha, hn, hm, opost ok .bl q⟩
end
theorem lex_ints : ∀ (ns ms : List Int) (a b : List (Int ⊕ List Nat)), PyProof.Rows.lexLt itemOrd (keyToksAll (ns.map PyData.int) ++ a) (keyToksAll (ms.map PyData.int) ++ b) = (HT.lexLt ns ms || (decide (ns = ms) && PyProof.Rows.lexLt itemOrd a b))
  | [], [], a, b => by
    simp only [List.map_nil, keyToksAll, List.cons_append, List.nil_append]
    rw [lex_self]
    rw [HT.lexLt_nil_nil]; simp
  | [], m :: ms, a, b => by
    simp only [List.map_nil, List.map_cons, keyToksAll, List.cons_append, List.nil_append]
    rw [lex_diff (by simp), HT.lexLt_nil_cons]
    simp; rfl
  | n :: ns, [], a, b => by
    simp only [List.map_nil, List.map_cons, keyToksAll, List.cons_append, List.nil_append]
    rw [lex_diff (by simp), HT.lexLt_cons_nil]
    simp; rfl
  | n :: ns, m :: ms, a, b => by
    simp only [List.map_cons, keyToksAll, keyToks, List.cons_append, List.nil_append]
    rw [lex_self]
    by_cases e : n = m
    · subst e
      rw [lex_self, lex_ints ns ms a b, HT.lexLt_cons, if_pos rfl]
      simp
    · rw [lex_diff (by simpa using e), HT.lexLt_cons, if_neg e]
      have : ¬ (n :: ns = m :: ms) := fun z => e (List.cons.inj z).1
      rw [decide_eq_false this, Bool.false_and, Bool.or_false]
      rfl
theorem alike_ints : ∀ ns ms : List Int, alikeAll (ns.map PyData.int) (ms.map PyData.int) = true
  | [], _ => by simp only [List.map_nil, alikeAll]
  | _ :: _, [] => by simp only [List.map_nil, List.map_cons, alikeAll]
  | n :: ns, m :: ms => by
    simp only [List.map_cons, alikeAll, alike, Bool.true_and]
    exact alike_ints ns ms
theorem pys_ints : ∀ ns : List Int, pys (ns.map D.int) = ns.map PyData.int
  | [] => by simp only [List.map_nil, pys]
  | n :: ns => by simp only [List.map_cons, pys, D.py]; rw [pys_ints ns]
theorem pures_ints : ∀ ns : List Int, pures (ns.map D.int) = true
  | [] => rfl
  | n :: ns => by
    show ((D.int n).pure && pures (ns.map D.int)) = true
    rw [pures_ints ns]; rfl
theorem depth_ints : ∀ ns : List Int, PyData.depthAll (ns.map PyData.int) = 0
  | [] => by simp only [List.map_nil, PyData.depthAll]
  | n :: ns => by simp only [List.map_cons, PyData.depthAll, PyData.depth, depth_ints ns]; rfl
theorem lt_pair (a b : Int) (ns ms : List Int) : dataLt (.tuple [.int a, .tuple (ns.map .int)]) (.tuple [.int b, .tuple (ms.map .int)]) = (decide (a < b) || (decide (a = b) && HT.lexLt ns ms)) := by
  rw [dataLt_tuple]
  simp only [keyToksAll, keyToks, List.cons_append, List.nil_append]
  rw [lex_self]
  by_cases e : a = b
  · subst e
    rw [lex_self, lex_self, lex_ints, lex_self]
    simp
    cases HT.lexLt ns ms
    · simp; intro _; rfl
    · simp
  · rw [lex_diff (by simpa using e), decide_eq_false e, Bool.false_and, Bool.or_false]; rfl
section
variable {c : Cf} {Q : D → Prop}
/-- (a, ns) < (b, ms) -/
theorem vo_ltP {a b : Int} {ns ms : List Int} (q : Q (.bl (decide (a < b) || (decide (a = b) && HT.lexLt ns ms)))) (hh : c.hot = none := by rfl) : VO c (compareOp .Lt) (.tup [.int a, .tup (ns.map D.int)]) (.tup [.int b, .tup (ms.map D.int)]) Q := by
  have py : ∀ (a : Int) (ns : List Int), (D.tup [.int a, .tup (ns.map D.int)]).py = .tuple [.int a, .tuple (ns.map .int)] := fun a ns => by simp only [D.py, pys, pys_ints]
  have pu : ∀ (a : Int) (ns : List Int), (D.tup [.int a, .tup (ns.map D.int)]).pure = true := fun a ns => by
    show (true && (pures (ns.map D.int) && true)) = true
    rw [pures_ints]; rfl
  refine vo_ltD (pu _ _) (pu _ _) ?_ ?_ ?_ ?_ hh
  · rw [py, py]; simp only [alike, alikeAll, Bool.true_and, Bool.and_true]; exact alike_ints ns ms
  · rw [py]; exact fun z => nomatch z
  · rw [py, py]; simp only [PyData.depth, PyData.depthAll, depth_ints]; decide
  · rw [py, py, lt_pair]; exact q
end
end DL
end
section
set_option Elab.async false
set_option linter.all false
set_option maxRecDepth 100000
set_option maxHeartbeats 4000000
/-! DL40: {k: v}; len of a frozen dict. -/
namespace DL
open PySem PySem.Spec PyProof.Rows L2 PySem.W
section
variable {c : Cf} {e a b : Expr} {es : List Expr} {Q : D → Prop} {Δ : Dl} {pos : Pos} {T : Te} {st : Stmt} {sts : List Stmt}
theorem wo_disp1 (h : WE c a (fun k => ∃ kk, k.key = some kk ∧ WE c b (fun v => ∀ p, Q (.oK p [kk] [v])) Δ) Δ) : WO c (.Dict [some a] [b] pos) Q Δ := fun X H0 Z0 hX σ H Z hS => by
  refine We.of (pe_disp (pps_cons pe_we pe_we pps_nil) rfl rfl (fun z => nomatch z) (by show 1 ≤ 15; decide)) fun p hp => ?_
  have zp := hS.ok.none hp
  have s0 : Stp H Z (upd H p (.dK [])) Z := .new hS.ok hp
  have hS0 := hS.step s0
  refine (h X H0 Z0 hX σ _ Z hS0).mono fun v H1 ⟨Z1, k, s1, rk, kk, hk, q1⟩ => ?_
  refine (q1 X H0 Z0 hX σ H1 Z1 (hS0.step s1)).mono fun u H2 ⟨Z2, d, s2, rd, q⟩ => ?_
  have nb : Nbo (.dK []) := ⟨fun ps e => (nomatch e), fun c q e => (nomatch (show _ = HO.ext _ from e)), fun vs e => (nomatch e)⟩
  have k2 := (s1.trans s2).keep p _ upd_same zp nb
  have ev := key_of hk rk
  subst ev
  refine ⟨k2.1, [(kk, u)], rfl, by show 1 ≤ 15; decide, Z2, _, ((s0.trans s1).trans s2).own (.of hp) k2.2, .inr ⟨p, _, rfl, .of hp, k2.2, upd_same, ?_⟩, q p⟩
  exact .dK (ks := [kk]) (vs := [u]) rfl (.cons rd .nil)
theorem vc_lenDK {ks : List Key} {l : List D} (q : Q (.int ks.length)) : VC c (.builtin "len") [.dK ks l] Q := fun X _ _ hX H Z vs ok r => by
  obtain ⟨v, rfl, r1⟩ := r.one
  cases r1 with
  | dK z e r =>
    exact ⟨_, cr_lenK, _, _, rfl, fz_at (.refl _) ok z, opost ok .int (by rw [List.length_zip, ← e, Nat.min_self]; exact q)⟩
end
end DL
end
section
set_option Elab.async false
set_option linter.all false
set_option maxRecDepth 100000
set_option maxHeartbeats 4000000
/-! DL41: rules for the walking tactic: slots by name, what may be walked. -/
namespace DL
open PySem PySem.Spec PyProof.Rows L2
theorem sz {n : Nat} (h : n ≤ 1000000) : n ≤ sizeLine := by rw [sizeLine_eq]; omega
/-! ### slots by name -/
section
variable {α : Type} {x a0 a1 a2 a3 a4 a5 a6 a7 a8 a9 b0 b1 b2 b3 b4 b5 b6 b7 b8 b9 c0 c1 c2 c3 : α} {l : List α}
theorem ix0 : (x :: l)[0]? = some x := rfl
theorem ix1 : (a0 :: x :: l)[1]? = some x := rfl
theorem ix2 : (a0 :: a1 :: x :: l)[2]? = some x := rfl
theorem ix3 : (a0 :: a1 :: a2 :: x :: l)[3]? = some x := rfl
theorem ix4 : (a0 :: a1 :: a2 :: a3 :: x :: l)[4]? = some x := rfl
theorem ix5 : (a0 :: a1 :: a2 :: a3 :: a4 :: x :: l)[5]? = some x := rfl
theorem ix6 : (a0 :: a1 :: a2 :: a3 :: a4 :: a5 :: x :: l)[6]? = some x := rfl
theorem ix7 : (a0 :: a1 :: a2 :: a3 :: a4 :: a5 :: a6 :: x :: l)[7]? = some x := rfl
theorem ix8 : (a0 :: a1 :: a2 :: a3 :: a4 :: a5 :: a6 :: a7 :: x :: l)[8]? = some x := rfl
theorem ix9 : (a0 :: a1 :: a2 :: a3 :: a4 :: a5 :: a6 :: a7 :: a8 :: x :: l)[9]? = some x := rfl
theorem ix10 : (a0 :: a1 :: a2 :: a3 :: a4 :: a5 :: a6 :: a7 :: a8 :: a9 :: x :: l)[10]? = some x := rfl
theorem ix11 : (a0 :: a1 :: a2 :: a3 :: a4 :: a5 :: a6 :: a7 :: a8 :: a9 :: b0 :: x :: l)[11]? = some x := rfl
theorem ix12 : (a0 :: a1 :: a2 :: a3 :: a4 :: a5 :: a6 :: a7 :: a8 :: a9 :: b0 :: b1 :: x :: l)[12]? = some x := rfl
theorem ix13 : (a0 :: a1 :: a2 :: a3 :: a4 :: a5 :: a6 :: a7 :: a8 :: a9 :: b0 :: b1 :: b2 :: x :: l)[13]? = some x := rfl
theorem ix14 : (a0 :: a1 :: a2 :: a3 :: a4 :: a5 :: a6 :: a7 :: a8 :: a9 :: b0 :: b1 :: b2 :: b3 :: x :: l)[14]? = some x := rfl
theorem ix15 : (a0 :: a1 :: a2 :: a3 :: a4 :: a5 :: a6 :: a7 :: a8 :: a9 :: b0 :: b1 :: b2 :: b3 :: b4 :: x :: l)[15]? = some x := rfl
theorem ix16 : (a0 :: a1 :: a2 :: a3 :: a4 :: a5 :: a6 :: a7 :: a8 :: a9 :: b0 :: b1 :: b2 :: b3 :: b4 :: b5 :: x :: l)[16]? = some x := rfl
theorem ix17 : (a0 :: a1 :: a2 :: a3 :: a4 :: a5 :: a6 :: a7 :: a8 :: a9 :: b0 :: b1 :: b2 :: b3 :: b4 :: b5 :: b6 :: x :: l)[17]? = some x := rfl
theorem ix18 : (a0 :: a1 :: a2 :: a3 :: a4 :: a5 :: a6 :: a7 :: a8 :: a9 :: b0 :: b1 :: b2 :: b3 :: b4 :: b5 :: b6 :: b7 :: x :: l)[18]? = some x := rfl
theorem ix19 : (a0 :: a1 :: a2 :: a3 :: a4 :: a5 :: a6 :: a7 :: a8 :: a9 :: b0 :: b1 :: b2 :: b3 :: b4 :: b5 :: b6 :: b7 :: b8 :: x :: l)[19]? = some x := rfl
end
/-! ### what may be walked -/
inductive Its : D → List D → Prop
  | lst {l : List D} : Its (.lst l) l
  | tup {l : List D} : Its (.tup l) l
  | lsA {a : Addr} {l : List D} : Its (.lsA a l) l
  | scr {ns : List Int} : Its (.scr ns) (ns.map D.int)
def ItSq (k : Bool) (K : PySem.W.Frag) (a : Addr) : It := match k with
  | true => Itl K a
  | false => Itt K a
def iSeqA (K : PySem.W.Frag) (tl : TE) : TI := fun σ H R => tl σ H fun x H1 => ∃ k a, x = .ref a ∧ (∃ xs, SqK k K H1 a xs) ∧ R (ItSq k K a) H1
theorem pi_seqA {X : Cx} {tg l : Expr} {tl : TE} (hl : PE X l tl) : PI X tg l (iSeqA X.K tl) := by
  refine ⟨fun pins s σ H R I h => ?_⟩
  refine thn (hl.run pins s σ H _ I h) fun v s1 ⟨x, H1, I1, r1, q1⟩ => ?_
  obtain ⟨k, a, e, ⟨xs, hq⟩, q⟩ := q1
  subst e
  cases r1
  cases k with
  | true =>
    obtain ⟨its, rv, p, hz⟩ := I1.list hq
    refine wpAny_pyIter_list p.isList ?_
    refine ⟨s1.heap.objs.size, [s1.heap.objs.size], _, _, H1, rfl, I1.kept (t' := s1.toks) fun b o e => Heap.get?_push_of_some _ e, turn_list a _, ⟨_, Heap.get?_push_size _ rfl, rfl, rfl⟩, fun b hb => ?_, q⟩
    have e : b = s1.heap.objs.size := by simpa using hb
    subst e
    exact I1.fpOk (Nat.le_refl _) (I1.hok.fresh (Nat.le_refl _))
  | false =>
    obtain ⟨its, rv, p, hz⟩ := I1.tuple hq
    refine wpAny_pyIter_tuple (show s1.heap.IsTuple a its.toArray from p) ?_
    refine ⟨s1.heap.objs.size, [s1.heap.objs.size], _, _, H1, rfl, I1.kept (t' := s1.toks) fun b o e => Heap.get?_push_of_some _ e, turn_tuple a _, ⟨_, Heap.get?_push_size _ rfl, rfl, rfl⟩, fun b hb => ?_, q⟩
    have e : b = s1.heap.objs.size := by simpa using hb
    subst e
    exact I1.fpOk (Nat.le_refl _) (I1.hok.fresh (Nat.le_refl _))
theorem yl_seq {K : PySem.W.Frag} {H : Hp} {Z : Sh} {k : Bool} {p : Addr} {vs : List V} {xs : List D} (hp : ∀ H' Z', Le Z Z' → OkZ H' Z' → SqK k K H' p vs) (r : Rps K Z vs xs) : Yl K (ItSq k K p) H Z xs := fun H' Z' le ok i => by
  have hq := hp H' Z' le ok
  refine ⟨fun x hx => ?_, fun hn => ?_⟩
  · obtain ⟨w, hw, rw'⟩ := r.get hx
    cases k with
    | true => exact ⟨⟨vs, w, hq, hw⟩, fun v H'' ⟨e, kk⟩ => by
        subst e
        have := kk vs hq
        rw [hw] at this; cases this
        exact ⟨Z', .refl ok, rw'.le le⟩⟩
    | false => exact ⟨⟨vs, w, hq, hw⟩, fun v H'' ⟨e, kk⟩ => by
        subst e
        have := kk vs hq
        rw [hw] at this; cases this
        exact ⟨Z', .refl ok, rw'.le le⟩⟩
  · have : vs.length ≤ i := by rw [r.length]; exact List.getElem?_eq_none_iff.mp hn
    cases k with
    | true => exact ⟨vs, hq, this⟩
    | false => exact ⟨vs, hq, this⟩
theorem its_rp {K : PySem.W.Frag} {H : Hp} {Z : Sh} {v : V} {d : D} {xs : List D} (ok : OkZ H Z) (h : Its d xs) (r : Rp K Z v d) : ∃ k p vs, v = .ref p ∧ Rps K Z vs xs ∧ ∀ H' Z', Le Z Z' → OkZ H' Z' → SqK k K H' p vs := by
  cases h with
  | lst => exact seqK ok (.inl rfl) r
  | tup => exact seqK ok (.inr rfl) r
  | lsA => exact seqK ok (.inl rfl) r.lsA_lst
  | scr =>
    obtain ⟨p, rfl, hp, later⟩ := r.scr_inv ok
    exact ⟨true, p, _, rfl, Rps.ints _, later⟩
variable {c : Cf} {e a b : Expr} {es : List Expr} {Q : D → Prop} {Δ : Dl} {pos : Pos}
/-- over whatever may be walked -/
theorem wi_its {tg : Expr} {Q : List D → Prop} (h : WE c e (fun d => ∃ ds, Its d ds ∧ Q ds) Δ) : WI c tg e Q Δ := fun X H0 Z0 hX σ H Z hS => by
  refine Wi.of (pi_seqA pe_we) ((h X H0 Z0 hX σ H Z hS).mono fun v H1 ⟨Z1, d, s1, r1, ds, ed, q⟩ => ?_)
  obtain ⟨k, p, vs, rfl, rr, hp⟩ := its_rp s1.ok ed r1
  refine ⟨k, p, rfl, ⟨vs, by rw [hX.K]; exact hp _ _ (Le.refl _) s1.ok⟩, Z1, ds, s1, ?_, q⟩
  rw [hX.K]
  exact yl_seq hp rr
end DL
end
section
set_option Elab.async false
set_option linter.all false
set_option maxRecDepth 100000
set_option maxHeartbeats 4000000
/-! DL42: dicts by values: in, not in, []; facts about own classes. -/
namespace DL
open PySem PySem.Spec PyProof.Rows L2 PySem.W
variable {X : Cx}
theorem op_din (hu : X.A.units + 1 < cLine) : OpR X (compareOp .In) (fun y x H Q => ∃ a ov, x = .ref a ∧ DGet H a y ov ∧ Q (.bl ov.isSome) H) := fun pins s σ H y x u v Q I ry rx ⟨a, ov, e, g, q⟩ => by
  subst e
  obtain rfl : v = Value.ref a := rx
  exact d_in hu I g ry fun s3 I3 => ⟨.bl ov.isSome, H, I3, rfl, q⟩
theorem op_dni (hu : X.A.units + 1 < cLine) : OpR X (compareOp .NotIn) (fun y x H Q => ∃ a ov, x = .ref a ∧ DGet H a y ov ∧ Q (.bl (!ov.isSome)) H) := fun pins s σ H y x u v Q I ry rx ⟨a, ov, e, g, q⟩ => by
  subst e
  obtain rfl : v = Value.ref a := rx
  exact d_notIn hu I g ry fun s3 I3 => ⟨.bl (!ov.isSome), H, I3, rfl, q⟩
theorem ix_dict (hu : X.A.units + 1 < cLine) : IxR X (fun x y H Q => ∃ a v, x = .ref a ∧ DGet H a y (some v) ∧ Q v H) := fun value slice pins s σ H x y u w Q I rx ry ⟨a, v, e, g, q⟩ hs => by
  subst e
  obtain rfl : u = Value.ref a := rx
  exact tail_any (dict_typeIs I g) PySem.F.slot_dict_getitem.lookup (d_getItem hu I g ry fun w' s3 I3 rw' => ⟨v, H, I3, rw', q⟩) hs
variable {c : Cf} {Q : D → Prop}
theorem vo_din {x y : D} {o : Option D} (h : DkAt x y o) (q : Q (.bl o.isSome)) (hh : c.hot = none := by rfl) : VO c (compareOp .In) y x Q := fun X H0 Z0 hX H Z v u ok r1 r2 => by
  obtain ⟨p, ow, e1, g, _, w0, w1⟩ := dk_rp ok h r2 r1
  refine ⟨_, op_din (hX.hu hh), p, ow, e1, g, opost ok (d := .bl ow.isSome) .bl ?_⟩
  rw [isSome_eq w0 w1]; exact q
theorem vo_dni {x y : D} {o : Option D} (h : DkAt x y o) (q : Q (.bl (!o.isSome))) (hh : c.hot = none := by rfl) : VO c (compareOp .NotIn) y x Q := fun X H0 Z0 hX H Z v u ok r1 r2 => by
  obtain ⟨p, ow, e1, g, _, w0, w1⟩ := dk_rp ok h r2 r1
  refine ⟨_, op_dni (hX.hu hh), p, ow, e1, g, opost ok (d := .bl (!ow.isSome)) .bl ?_⟩
  rw [isSome_eq w0 w1]; exact q
theorem vi_dict {x y d : D} (h : DkAt x y (some d)) (q : Q d) (hh : c.hot = none := by rfl) : VI c x y Q := fun X H0 Z0 hX H Z v u ok r1 r2 => by
  obtain ⟨p, ow, e1, g, _, w0, w1⟩ := dk_rp ok h r1 r2
  obtain ⟨w, e2, rw'⟩ := w1 d rfl
  subst e2
  exact ⟨_, ix_dict (hX.hu hh), p, w, e1, g, opost ok rw' q⟩
/-! ### an own class, by its name in the module; its fields are no class attributes -/
structure CFx (K : PySem.W.Frag) (mg : Str → Option Value) (x : Str) (C : Addr) (fs : List Str) : Prop where
  g : mg x = some (.ref C)
  cl : ClsF K C
  isC : PySem.W.kitOne K (.ref C) (.ref C) = some true
  no : ∀ f ∈ fs, NoAttr K C f
theorem CFx.cls {K : PySem.W.Frag} {mg : Str → Option Value} {x : Str} {C : Addr} {fs : List Str} (h : CFx K mg x C fs) : Cls K C := h.cl.cl
section
variable {e b : Expr} {Δ : Dl} {pos : Pos}
/-- x[b], x one's own list -/
theorem we_olx (i : Nat) {x : Str} {p : Pos} {l : List D} (hN : c.N[i]? = some x) (hv : Vis c.sc x) (hi : Δ[i]? = some (some (.ol l))) (h : WE c b (fun y => ∃ n, y = .int n ∧ ∃ d, atI l n = some d ∧ Q d) Δ) (hs : PlainIx b := by exact fun _ _ => rfl) (hd : (x == ("__debug__" : Str)) = false := by decide) (hcd : (x == ("__classdict__" : Str)) = false := by decide) : WE c (.Subscript (.Name x p) b pos) Q Δ := fun X H0 Z0 hX σ H Z hS => by
  refine We.of (pe_ix ix_list (pe_var (i := i) (by rw [hX.N]; exact hN) (by rw [hX.sc]; exact hv) hd hcd) pe_we hs) ?_
  obtain ⟨l', o, e1, h0, zl, hl, ow⟩ := hS.getO hi rfl
  refine ⟨_, e1, ?_⟩
  refine (h X H0 Z0 hX σ H Z hS).mono fun v H1 ⟨Z1, y, s1, ry, n, ey, d, hk, qq⟩ => ?_
  subst ey; cases ry
  have kk := s1.keep l' o hl zl ow.nbo
  cases ow with
  | lst rr =>
    obtain ⟨w, e, rw'⟩ := atI_rps (rr.le s1.le) hk
    exact ⟨l', _, n, w, rfl, rfl, .of kk.1, e, Z1, d, s1, rw', qq⟩
theorem set_at {i : Nat} {d d' : D} (h : Δ[i]? = some (some d)) : (Δ.set i (some d'))[i]? = some (some d') := List.getElem?_set_self (List.getElem?_eq_some_iff.mp h).1
/-- len(x), x one's own list -/
theorem we_olen (i : Nat) {x f : Str} {p p2 : Pos} {l : List D} (hg : Glo c f) (hm : c.mg f = none) (hv0 : bootBuiltins f = some (.builtin "len")) (hN : c.N[i]? = some x) (hv : Vis c.sc x) (hi : Δ[i]? = some (some (.ol l))) (q : Q (.int l.length)) (hn : f ≠ "__name__" := by decide) (hdb : (f == ("__debug__" : Str)) = false := by decide) (hd : (x == ("__debug__" : Str)) = false := by decide) (hcd : (x == ("__classdict__" : Str)) = false := by decide) : WE c (.Call (.Name f p2) [.Name x p] [] pos) Q Δ :=
  we_borrow i hi rfl (we_of_wo (wo_callB hg hm hv0 (wa_cons (we_var i hN hv (set_at hi) rfl (wa_nil (vc_lenL ⟨rfl, q⟩)) hd hcd)) rfl hn hdb))
end
theorem vc_lstQ {d : D} {l : List D} (h : IsSeq d l) (q : Q (.ol l)) : VC c (.type "list") [d] Q := by
  rcases h with rfl | rfl
  · exact vc_lstL q
  · exact vc_lstT q
theorem vc_lenQ {d : D} {l : List D} (h : IsSeq d l) (q : Q (.int l.length)) : VC c (.builtin "len") [d] Q := by
  rcases h with rfl | rfl
  · exact vc_lenL q
  · exact vc_lenT q
theorem Its.seq {d : D} {l : List D} (h : IsSeq d l) : Its d l := by rcases h with rfl | rfl; exact .lst; exact .tup
theorem nin {c : Cf} {T : Te} {Δ : Dl} {b : Bool} {A B : List Stmt} (h : b = false) (k : WB c B T Δ) : if b = true then WB c A T Δ else WB c B T Δ := if_f h k
end DL
end
section
set_option Elab.async false
set_option linter.all false
set_option maxRecDepth 100000
set_option maxHeartbeats 4000000
/-! DL43: list(range(..)), tuple(range(..)). -/
namespace DL
open PySem PySem.Spec PyProof.Rows L2
theorem rps_rg {K : PySem.W.Frag} {Z : Sh} (a b : Int) : Rps K Z (rgV a b) (rng a (b - a).toNat) := by
  have h : ∀ l : List Nat, Rps K Z (l.map fun i => V.int (a + (i : Nat))) (l.map fun i => D.int (a + (i : Nat))) := fun l => by
    induction l with
    | nil => exact .nil
    | cons x l ih => exact .cons .int ih
  exact h _
variable {c : Cf} {e a b : Expr} {es : List Expr} {Q : D → Prop} {Δ : Dl} {pos : Pos}
theorem wo_listRg1 {p p2 pos2 : Pos} (hg : Glo c "list") (hm : c.mg "list" = none) (hg2 : Glo c "range") (hm2 : c.mg "range" = none) (h : WE c a (fun x => ∃ n, x = .int n ∧ RgOk 0 n ∧ Q (.ol (rng 0 (n - 0).toNat))) Δ) (hs : isStar a = false := by rfl) (hh : c.hot = none := by rfl) : WO c (.Call (.Name "list" p) [.Call (.Name "range" p2) [a] [] pos2] [] pos) Q Δ := fun X H0 Z0 hX σ H Z hS => by
  refine We.of (pe_listRg (hX.calm hh) (hX.gl hg) (by rw [hX.mg]; exact hm) (prg_1 (hX.gl hg2) (by rw [hX.mg]; exact hm2) pe_we (star1 hs)) rfl) ?_
  refine (h X H0 Z0 hX σ H Z hS).mono fun v H1 ⟨Z1, x, s1, r1, n, e1, ok, q⟩ => ?_
  subst e1; cases r1
  exact ⟨n, rfl, ok, fun p hp => oPost.mono hS.ok s1 (opost_newL s1.ok hp (rps_rg _ _) q)⟩
theorem wo_listRg2 {p p2 pos2 : Pos} (hg : Glo c "list") (hm : c.mg "list" = none) (hg2 : Glo c "range") (hm2 : c.mg "range" = none) (h : WE c a (fun x => ∃ m, x = .int m ∧ WE c b (fun y => ∃ n, y = .int n ∧ RgOk m n ∧ Q (.ol (rng m (n - m).toNat))) Δ) Δ) (hs : isStar a = false := by rfl) (hs2 : isStar b = false := by rfl) (hh : c.hot = none := by rfl) : WO c (.Call (.Name "list" p) [.Call (.Name "range" p2) [a, b] [] pos2] [] pos) Q Δ := fun X H0 Z0 hX σ H Z hS => by
  refine We.of (pe_listRg (hX.calm hh) (hX.gl hg) (by rw [hX.mg]; exact hm) (prg_2 (hX.gl hg2) (by rw [hX.mg]; exact hm2) pe_we pe_we (star1 hs) (star1 hs2) (by rw [star1 hs2]; rfl)) rfl) ?_
  refine (h X H0 Z0 hX σ H Z hS).mono fun v H1 ⟨Z1, x, s1, r1, m, e1, q1⟩ => ?_
  subst e1; cases r1
  refine (q1 X H0 Z0 hX σ H1 Z1 (hS.step s1)).mono fun u H2 ⟨Z2, y, s2, r2, n, e2, ok, q⟩ => ?_
  subst e2; cases r2
  exact ⟨m, n, rfl, rfl, ok, fun p hp => oPost.mono hS.ok (s1.trans s2) (opost_newL s2.ok hp (rps_rg _ _) q)⟩
end DL
end
section
set_option Elab.async false
set_option linter.all false
set_option maxRecDepth 100000
set_option maxHeartbeats 4000000
/-! DL44: x[b], y = e. -/
namespace DL
open PySem PySem.Spec PyProof.Rows L2
variable {c : Cf} {e a b : Expr} {es : List Expr} {Q : D → Prop} {Δ : Dl} {pos : Pos} {T : Te}
/-- x[b], y = e: x one's own list, y a name -/
theorem ws_itemN (i j : Nat) {x y : Str} {p p2 p3 tp : Pos} {kk : Nat} {ds : List D} (hN : c.N[i]? = some x) (hv : Vis c.sc x) (hN2 : c.N[j]? = some y) (hv2 : Loc c.sc y) (hi : Δ[i]? = some (some (.ol ds)))
    (h : WE c e (fun d => ∃ y1 y2, d = .tup [y1, y2] ∧ WE c b (fun ix => ∃ n k, ix = .int n ∧ ixN ds.length n = some k ∧ T.nx ((Δ.set i (some (.ol (ds.set k y1)))).set j (some y2))) Δ) Δ)
    (hw : ∀ env : Env, env.scope = c.sc → swappedStores [.Tuple [.Subscript (.Name x p) b p2, .Name y p3] kk tp] e env = pure none)
    (hs : ∀ env, swapsWithSole [.Tuple [.Subscript (.Name x p) b p2, .Name y p3] kk tp] e pos.line env = pure false := by intro _; rfl)
    (ha : ∀ env v, assign (.Subscript (.Name x p) b p2) env v = (do
      let ov ← holding [v] (eval (.Name x p) env)
      let iv ← holding [v, ov] (eval b env)
      standAt p2
      holding [v, ov, iv] (setItem ov iv v)
      release [v, ov, iv] []) := by intro _ _; rfl)
    (hst : c.st y = true := by rfl) (hd : (x == ("__debug__" : Str)) = false := by decide) (hcd : (x == ("__classdict__" : Str)) = false := by decide) (hh : c.hot = none := by rfl) : WS c (.Assign [.Tuple [.Subscript (.Name x p) b p2, .Name y p3] kk tp] e pos) T Δ := fun X H0 Z0 hX σ H Z hS => by
  refine Ws.of (ps_asg pe_we (pg_tup (hX.calm hh) (pgs_cons (pg_sub (pe_var (i := i) (by rw [hX.N]; exact hN) (by rw [hX.sc]; exact hv) hd hcd) pe_we set_list (ha _)) (pgs_cons (hX.toCtxOk.pg hN2 hv2 hst) pgs_nil))) (hs _) (hw _ hX.sc) rfl) ?_
  refine (h X H0 Z0 hX.toCtxOk σ H Z hS).mono fun v H1 ⟨Z1, d, s1, ry, y1, y2, ed, q1⟩ => ?_
  subst ed
  obtain ⟨tq, vs, rfl, hp, zp, rr⟩ := ry.tup_inv s1.ok
  obtain ⟨v1, v2, rfl, rv1, rv2⟩ := rr.two
  refine ⟨tq, _, rfl, .of hp, rfl, v1, [v2], rfl, ?_⟩
  have hS1 := hS.step s1
  obtain ⟨l, o, e1, h0, zl, hl, r⟩ := hS1.getO hi rfl
  refine ⟨_, e1, ?_⟩
  refine (q1 X H0 Z0 hX.toCtxOk σ H1 Z1 hS1).mono fun u H2 ⟨Z2, ix, s2, ri, n, k, en, hk, q⟩ => ?_
  subst en; cases ri
  have hS2 := hS1.step s2
  obtain ⟨l2, o2, e2, _, _, hl2, r2⟩ := hS2.getO hi rfl
  rw [e1] at e2; cases e2
  cases r2 with
  | lst rr2 =>
    have hS3 := hS2.put hi rfl e1 (.lst (rr2.set (rv1.le s2.le) k))
    refine ⟨l, _, n, k, rfl, rfl, hl2, by rw [rr2.length]; exact hk, v2, [], rfl, ?_⟩
    exact ⟨rfl, Z2, _, s1.le.trans s2.le, hS3.set j (rv2.le s2.le), q⟩
end DL
end
section
set_option Elab.async false
set_option linter.all false
set_option maxRecDepth 100000
set_option maxHeartbeats 4000000
/-! DL45: a, b = x, y with new things of one's own, a name captured elsewhere. -/
namespace DL
open PySem PySem.Spec PyProof.Rows L2
variable {c : Cf} {e a b : Expr} {es : List Expr} {Q : D → Prop} {Δ : Dl} {pos : Pos} {T : Te}
theorem ws_unpO (i j : Nat) {x y : Str} {px py pt : Pos} {kt k2 pt2} (hi : c.N[i]? = some x) (hj : c.N[j]? = some y) (hx : Loc c.sc x) (hy : Loc c.sc y)
    (h : WO c a (fun d1 => WO c b (fun d2 => T.nx ((Δ.set i (some d1)).set j (some d2))) Δ) Δ)
    (hw : ∀ env : Env, env.scope = c.sc → swappedStores [.Tuple [.Name x px, .Name y py] kt pt] (.Tuple [a, b] k2 pt2) env = pure none) (hs : ∀ env, swapsWithSole [.Tuple [.Name x px, .Name y py] kt pt] (.Tuple [a, b] k2 pt2) pos.line env = pure false := by intro _; rfl) (ha : isStar a = false := by rfl) (hb : isStar b = false := by rfl) (hst : c.st x = true := by rfl) (hst2 : c.st y = true := by rfl) (hh : c.hot = none := by rfl) : WS c (.Assign [.Tuple [.Name x px, .Name y py] kt pt] (.Tuple [a, b] k2 pt2) pos) T Δ := fun X H0 Z0 hX σ H Z hS => by
  refine Ws.of (ps_asg (pe_tup (pa_cons pe_we (pa_cons pe_we pa_nil (star1 hb)) (star1 ha))) (pg_tup (hX.calm hh) (pgs_cons (hX.toCtxOk.pg hi hx hst) (pgs_cons (hX.toCtxOk.pg hj hy hst2) pgs_nil))) (hs _) (hw _ hX.sc) rfl) ?_
  refine (h X H0 Z0 hX.toCtxOk σ H Z hS).mono fun v H1 ⟨Z1, d1, s1, r1, q1⟩ => ?_
  refine (q1 X H0 Z0 hX.toCtxOk σ H1 Z1 (hS.step s1)).mono fun u H2 ⟨Z2, d2, s2, r2, q2⟩ => ?_
  refine ⟨by show 2 ≤ _; rw [sizeLine_eq]; decide, fun p hp => ?_⟩
  have s3 : Stp H2 Z2 (upd H2 p (.tup [v, u])) Z2 := .new s2.ok hp
  exact ⟨p, _, rfl, .of upd_same, rfl, v, [u], rfl, u, [], rfl, rfl, Z2, _, s1.le.trans s2.le, ((hS.setO s1 i r1).setO s2 j r2).step s3, q2⟩
/-- if t: .., t never true -/
theorem wb_ifF {t : Expr} {A sts : List Stmt} (h : WT c t (fun k => k = false) Δ) (n : WB c sts T Δ) : WB c (.If t A [] pos :: sts) T Δ := wb_cons (ws_if (h.mono fun k hk => if_f hk (wb_nil n)))
end DL
end
section
set_option Elab.async false
set_option linter.all false
set_option maxRecDepth 100000
set_option maxHeartbeats 4000000
/-! DL46: a dict that keeps what was reckoned once. -/
namespace DL
open PySem PySem.Spec PyProof.Rows L2
open PySem.Sem in
theorem wp_app {M : Model} {Γ : PySem.Ctx} {l2 : List Stmt} {env : Env} {Q : Flow → Pos → Shared → Prop} {E : Value → Pos → Shared → Prop} : ∀ (l1 : List Stmt) (p : Pos) (s : Shared), Sem.wp M Γ (execs l1 env) (fun f p' s' => match f with | .next => Sem.wp M Γ (execs l2 env) Q E p' s' | f => Q f p' s') E p s → Sem.wp M Γ (execs (l1 ++ l2) env) Q E p s
  | [], p, s, h => h
  | st :: l1, p, s, h => by
    show Sem.wp M Γ (execs (st :: (l1 ++ l2)) env) Q E p s
    rw [execs_cons, Sem.wp_bind'] at h ⊢
    refine Sem.wp_mono M Γ _ (fun f p' s' q => ?_) (fun _ _ _ q => q) p s h
    cases f with
    | next => exact wp_app l1 p' s' q
    | ret v => exact q
    | brk => exact q
    | cont => exact q
theorem wss_app {X : Cx} {l1 l2 : List Stmt} {D : Ends} {σ : L2.St} {H : Hp} (h : Wss X l1 { D with nx := fun σ' H' => Wss X l2 D σ' H' } σ H) : Wss X (l1 ++ l2) D σ H := fun pins s I Γ p hΓ => by
  refine wp_app l1 p s (Sem.wp_mono _ Γ _ (fun f p' s' h' => ?_) (fun _ _ _ h' => h') _ _ (h pins s I Γ p hΓ))
  cases f with
  | next =>
    obtain ⟨σ', H', I', q⟩ := h'
    exact q pins s' I' Γ p' hΓ
  | ret v => exact h'
  | brk => exact h'
  | cont => exact h'

/-! ### tables of ints -/
def tabD (rs : List (List Int)) : D := .tup (rs.map fun r => .tup (r.map .int))
theorem ints_rps {K : PySem.W.Frag} {Z : Sh} : ∀ r : List Int, Rps K Z (r.map V.int) (r.map D.int)
  | [] => .nil
  | _ :: r => .cons .int (ints_rps r)
theorem rps_ints {K : PySem.W.Frag} {Z : Sh} : ∀ {r : List Int} {vs : List V}, Rps K Z vs (r.map D.int) → vs = r.map V.int
  | [], _, h => by cases h; rfl
  | x :: r, _, h => by
    cases h with
    | cons a t => cases a; rw [rps_ints t]; rfl
theorem trows_rps {K : PySem.W.Frag} {Z : Sh} : ∀ {rs : List (List Int)} {vs : List V}, TRows Z vs rs → Rps K Z vs (rs.map fun r => .tup (r.map .int))
  | [], [], _ => .nil
  | r :: rs, v :: vs, ⟨⟨q, e, z⟩, t⟩ => by subst e; exact .cons (.tup z (ints_rps r)) (trows_rps t)
  | [], _ :: _, t => t.elim
  | _ :: _, [], t => t.elim
theorem rps_trows {K : PySem.W.Frag} {Z : Sh} : ∀ {rs : List (List Int)} {vs : List V}, Rps K Z vs (rs.map fun r => .tup (r.map .int)) → TRows Z vs rs
  | [], _, h => by cases h; trivial
  | r :: rs, _, h => by
    cases h with
    | cons a t =>
      cases a with
      | tup z rr => rw [rps_ints rr] at z; exact ⟨⟨_, rfl, z⟩, rps_trows t⟩
theorem ttab_rp {K : PySem.W.Frag} {Z : Sh} {v : V} {rs : List (List Int)} (t : TTab Z v rs) : Rp K Z v (tabD rs) := by
  obtain ⟨p, vs, e, z, r⟩ := t
  subst e
  exact .tup z (trows_rps r)
theorem rp_ttab {K : PySem.W.Frag} {Z : Sh} {v : V} {rs : List (List Int)} (h : Rp K Z v (tabD rs)) : TTab Z v rs := by
  cases h with
  | tup z rr => exact ⟨_, _, rfl, z, rps_trows rr⟩
theorem valV_mem {kvs : List (Key × V)} {k : Key} {v : V} (h : valV kvs k = some v) : (k, v) ∈ kvs := by
  unfold valV at h
  cases e : kvs.find? fun kv => decide (kv.1 = k) with
  | none => rw [e] at h; cases h
  | some kv =>
    rw [e] at h; cases h
    have h1 := List.mem_of_find?_eq_some e
    have h2 := List.find?_some e
    rw [decide_eq_true_iff] at h2
    rw [← h2]; exact h1
theorem valV_none {kvs : List (Key × V)} {k : Key} (h : valV kvs k = none) : k ∉ kvs.map (·.1) := fun hm => by
  obtain ⟨kv, h1, h2⟩ := List.mem_map.mp hm
  unfold valV at h
  rw [Option.map_eq_none_iff, List.find?_eq_none] at h
  exact h kv h1 (decide_eq_true h2)
/-- what is kept, one thing more -/
theorem kept_put {Z : Sh} {sp : KS} {kvs : List (Key × V)} {k : Str} {rs : List (List Int)} {v : V} (nd : (kvs.map (·.1)).Nodup) (h : ∀ kv ∈ kvs, ∃ x rs, kv.1 = .inr x ∧ (x, rs) ∈ sp ∧ TTab Z kv.2 rs) (hm : (k, rs) ∈ sp) (t : TTab Z v rs) :
    ((putK kvs (.inr k) v).map (·.1)).Nodup ∧ ∀ kv ∈ putK kvs (.inr k) v, ∃ x rs, kv.1 = .inr x ∧ (x, rs) ∈ sp ∧ TTab Z kv.2 rs := by
  cases e : valV kvs (.inr k) with
  | none =>
    rw [putK_new v e]
    refine ⟨?_, fun kv hk => ?_⟩
    · rw [List.map_append, List.map_cons, List.map_nil, List.nodup_append]
      refine ⟨nd, by simp, fun a ha b hb => ?_⟩
      rw [List.mem_singleton.mp hb]
      intro z
      have z : a = .inr k := z
      rw [z] at ha
      exact valV_none e ha
    · rcases List.mem_append.mp hk with hk | hk
      · exact h kv hk
      · rw [List.mem_singleton.mp hk]; exact ⟨k, rs, rfl, hm, t⟩
  | some w =>
    unfold putK
    rw [if_pos (by rw [valV_any, e]; rfl)]
    refine ⟨?_, fun kv hk => ?_⟩
    · rw [List.map_map]
      have : ((fun x : Key × V => x.1) ∘ fun kv : Key × V => if kv.1 = .inr k then (kv.1, v) else kv) = fun x => x.1 := by
        funext kv; show (if kv.1 = .inr k then (kv.1, v) else kv).1 = kv.1; split <;> rfl
      rw [this]; exact nd
    · obtain ⟨kv0, h1, h2⟩ := List.mem_map.mp hk
      by_cases h3 : kv0.1 = .inr k
      · rw [if_pos h3] at h2; subst h2; exact ⟨k, rs, h3, hm, t⟩
      · rw [if_neg h3] at h2; subst h2; exact h kv0 h1
theorem kept_len {Z : Sh} {sp : KS} {kvs : List (Key × V)} (nd : (kvs.map (·.1)).Nodup) (h : ∀ kv ∈ kvs, ∃ x rs, kv.1 = .inr x ∧ (x, rs) ∈ sp ∧ TTab Z kv.2 rs) : kvs.length ≤ sp.length := by
  have h1 : kvs.map (·.1) ⊆ sp.map (fun kr => (Sum.inr kr.1 : Key)) := fun k hk => by
    obtain ⟨kv, h1, h2⟩ := List.mem_map.mp hk
    obtain ⟨x, rs, e, m, _⟩ := h kv h1
    exact List.mem_map.mpr ⟨_, m, by rw [← h2]; exact e.symm⟩
  have := nd.length_le_of_subset h1
  rw [List.length_map, List.length_map] at this
  exact this
theorem wss_nil {X : Cx} {D : Ends} {σ : L2.St} {H : Hp} (h : D.nx σ H) : Wss X [] D σ H := fun pins s I => wpAny_execs_nil ⟨σ, H, I, h⟩
section
variable {c : Cf} {e a b : Expr} {es : List Expr} {Q : D → Prop} {Δ : Dl} {pos : Pos} {T : Te} {st : Stmt} {sts : List Stmt}
/-- {} that keeps things -/
theorem we_kept (sp : KS) (h : WO c e (fun d => ∃ q, d = .oK q [] [] ∧ Q (.kep sp)) Δ) : WE c e Q Δ := fun X H0 Z0 hX σ H Z hS pins s I => by
  refine thn (h X H0 Z0 hX σ H Z hS pins s I) fun u s' ⟨v, H', I', rv, Z', d, st, rr, q, ed, qq⟩ => ?_
  subst ed
  rcases rr with rr | ⟨p, o, rfl, fr, zp, hp, ow⟩
  · cases rr
  · cases ow with
    | dK e r =>
      exact ⟨_, _, I', rv, _, .kep sp, st.shareK fr zp hp, .kep shr_same, qq⟩
theorem kept_at {K : PySem.W.Frag} {H0 : Hp} {Z0 : Sh} {σ : L2.St} {H : Hp} {Z : Sh} (hS : Slots K H0 Z0 σ H Z Δ) {i : Nat} {C : Addr} {ns : List Str} {ds : List D} {f : Str} {sp : KS} (hi : Δ[i]? = some (some (.ins C ns ds))) (hl : (ns.zip ds).lookup f = some (.kep sp)) :
    ∃ q dx fs pk, σ[i]? = some (some (.ref q)) ∧ H q = some (.ins C dx fs) ∧ fs.lookup f = some (.ref pk) ∧ Z pk = some (keptP sp) := by
  obtain ⟨v, e1, r⟩ := hS.at_ i _ hi
  rcases r with r | ⟨l, o, rfl, h0, z, hl', r⟩
  · obtain ⟨p, dx, vs, rfl, hp, el, rr⟩ := r.ins_inv hS.stp.ok
    obtain ⟨w, hw, rw'⟩ := rr.lookup hl
    cases rw' with
    | kep zz => exact ⟨p, dx, _, _, e1, hp, hw, zz⟩
  · have := r.own; cases this
/-- if k not in x.f: body; x.f[k] = e .. return x.f[k] -/
theorem wb_kept {sp : KS} {k : Str} {rs : List (List Int)} {x f : Str} {p1 p2 p3 p4 p5 p6 p7 p8 p9 q1 q2 q3 r1 r2 r3 : Pos} {j1 j2 j3 : Nat} {l1 body : List Stmt} (i : Nat) {C : Addr} {ns : List Str} {ds : List D}
    (hN : c.N[i]? = some x) (hv : Vis c.sc x) (hi : Δ[i]? = some (some (.ins C ns ds))) (hl : (ns.zip ds).lookup f = some (.kep sp)) (hc : Cls c.K C) (hn : NoAttr c.K C f)
    (hb : body = l1 ++ [.Assign [.Subscript (.Attribute (.Name x q2) f r2) (.Constant (.str k) j2 p3) p4] e p5])
    (hm : (k, rs) ∈ sp) (hu : ∀ rs', (k, rs') ∈ sp → rs' = rs) (hz : sp.length < sizeLine)
    (ht : T.rt (tabD rs) Δ)
    (h : WB c l1 { T with nx := fun Δ' => Δ'[i]? = some (some (.ins C ns ds)) ∧ WE c e (fun y => y = tabD rs) Δ' ∧ T.rt (tabD rs) Δ' } Δ)
    (hs : ∀ env, swapsWith e (some (.Subscript (.Attribute (.Name x q2) f r2) (.Constant (.str k) j2 p3) p4)) p5.line env = pure false := by intro _; rfl)
    (hd : (x == ("__debug__" : Str)) = false := by decide) (hcd : (x == ("__classdict__" : Str)) = false := by decide) (hh : c.hot = none := by rfl) :
    WB c [.If (.Compare (.Constant (.str k) j1 p1) [.NotIn] [.Attribute (.Name x q1) f r1] p2) body [] p6, .Return (some (.Subscript (.Attribute (.Name x q3) f r3) (.Constant (.str k) j3 p7) p8)) p9] T Δ := fun X H0 Z0 hX σ H Z hS => by
  subst hb
  have pv : ∀ {q : Pos}, PE X (.Name x q) (tVar i) := fun {q} => pe_var (i := i) (by rw [hX.N]; exact hN) (by rw [hX.sc]; exact hv) hd hcd
  have pf : ∀ {q r : Pos}, PE X (.Attribute (.Name x q) f r) (tFld X.K (tVar i) f) := fun {q r} => pe_fld pv rfl
  -- the end
  have fin : ∀ {σ2 H2 Z2 Δ2}, Slots c.K H0 Z0 σ2 H2 Z2 Δ2 → Δ2[i]? = some (some (.ins C ns ds)) → T.rt (tabD rs) Δ2 → (∀ q dx fs pk, σ2[i]? = some (some (.ref q)) → H2 q = some (.ins C dx fs) → fs.lookup f = some (.ref pk) → ∃ kvs v, H2 pk = some (.dK kvs) ∧ valV kvs (.inr k) = some v) →
      Wss X [.Return (some (.Subscript (.Attribute (.Name x q3) f r3) (.Constant (.str k) j3 p7) p8)) p9] (liftE c.K H0 Z0 Z T) σ2 H2 := fun {σ2 H2 Z2 Δ2} hS2 hi2 ht2 hk => by
    obtain ⟨q, dx, fs, pk, e1, e2, e3, e4⟩ := kept_at hS2 hi2 hl
    obtain ⟨kvs, v, e5, e6⟩ := hk q dx fs pk e1 e2 e3
    obtain ⟨kvs', e5', nd, al⟩ := hS2.stp.ok.kp pk sp e4
    rw [e5] at e5'; cases e5'
    obtain ⟨y, rs', ey, m, t⟩ := al _ (valV_mem e6)
    cases ey
    have := hu rs' m; subst this
    refine Wss.of (pss_one (ps_ret (pe_dget (hX.hu hh) pf pe_str (fun _ _ => rfl)))) ?_
    refine ⟨_, e1, q, C, dx, fs, _, rfl, e2, by rw [hX.K]; exact hc, by rw [hX.K]; exact hn, e3, pk, v, rfl, ?_, Z2, tabD rs', σ2, Δ2, hS2, .inl (ttab_rp t), ht2⟩
    rw [← e6]; exact DGet.k (k := .inr k) e5
  refine Wss.of (pss_cons (ps_if (pt_cmp (pc_dnotin (hX.hu hh) pe_str pf) rfl) pss_we pss_we) pss_we) ?_
  obtain ⟨q, dx, fs, pk, e1, e2, e3, e4⟩ := kept_at hS hi hl
  obtain ⟨kvs, e5, nd, al⟩ := hS.stp.ok.kp pk sp e4
  refine ⟨_, e1, q, C, dx, fs, _, rfl, e2, by rw [hX.K]; exact hc, by rw [hX.K]; exact hn, e3, pk, valV kvs (.inr k), rfl, DGet.k (k := .inr k) e5, _, rfl, ?_⟩
  cases ev : valV kvs (.inr k) with
  | some v =>
    rw [if_neg (by simp)]
    refine wss_nil ?_
    refine fin hS hi ht fun q' dx' fs' pk' a1 a2 a3 => ?_
    rw [e1] at a1; cases a1
    rw [e2] at a2; cases a2
    rw [e3] at a3; cases a3
    exact ⟨kvs, v, e5, ev⟩
  | none =>
    rw [if_pos (by simp)]
    refine wss_app fun pins s I => ?_
    refine thn (h X H0 Z0 hX σ H Z hS pins s I) fun fl s' qq => sp_mono qq (fun σ2 H2 ⟨Z2, Δ2, le, hS2, hi2, we, ht2⟩ => ?_) (fun _ _ q => q) (fun _ _ q => q) fun _ _ q => q
    refine Wss.of (pss_one (ps_dput (hX.hu hh) pf pe_str pe_we (hs _))) ?_
    refine (we X H0 Z0 hX.toCtxOk σ2 H2 Z2 hS2).mono fun v H3 ⟨Z3, y, s3, ry, ey⟩ => ?_
    subst ey
    have hS3 := hS2.step s3
    obtain ⟨q', dx', fs', pk', a1, a2, a3, a4⟩ := kept_at hS3 hi2 hl
    obtain ⟨kvs', a5, nd', al'⟩ := hS3.stp.ok.kp pk' sp a4
    refine ⟨_, a1, q', C, dx', fs', _, rfl, a2, by rw [hX.K]; exact hc, by rw [hX.K]; exact hn, a3, pk', _, rfl, .k (k := .inr k) a5 (Nat.lt_of_le_of_lt (kept_len nd' al') hz), ?_⟩
    obtain ⟨nd2, al2⟩ := kept_put nd' al' hm (rp_ttab ry)
    have s4 := Stp.fill hS3.stp.ok a4 nd2 al2
    refine fin (hS3.step s4) hi2 ht2 fun q2 dx2 fs2 pk2 b1 b2 b3 => ?_
    rw [a1] at b1; cases b1
    have hne : q' ≠ pk' := fun z => by rw [z, a5] at a2; cases a2
    rw [upd_ne hne, a2] at b2; cases b2
    rw [a3] at b3; cases b3
    refine ⟨_, v, upd_same, ?_⟩
    rw [valV_put, if_pos rfl]
end
end DL
end
section
set_option Elab.async false
set_option linter.all false
set_option maxRecDepth 100000
set_option maxHeartbeats 4000000
/-! DL47: texts: times a number, split, upper, slices; the place in a tuple of texts. -/
namespace DL
open PySem PySem.Spec PyProof.Rows L2 SX
theorem foldl_repN (a : List Nat) : ∀ (k : Nat) (acc : List Nat), List.foldl (fun x1 x2 => x1 ++ x2) acc.toArray (List.replicate k a.toArray) = (acc ++ (List.replicate k a).flatten).toArray
  | 0, acc => by simp
  | k + 1, acc => by
    have e : acc.toArray ++ a.toArray = (acc ++ a).toArray := by simp
    have e2 : (acc ++ a) ++ (List.replicate k a).flatten = acc ++ (List.replicate (k + 1) a).flatten := by
      rw [List.replicate_succ, List.flatten_cons, List.append_assoc]
    rw [← e2, ← foldl_repN a k (acc ++ a), ← e, List.replicate_succ, List.foldl_cons]
def rRepS : R2 := fun x y H Q => ∃ (a : List Nat) (n : Int), x = .str (S a) ∧ y = .int n ∧ 0 ≤ n ∧ n ≤ 1000 ∧ a.length ≤ 1000 ∧ Q (.str (S (List.replicate n.toNat a).flatten)) H
theorem flat_len (a : List Nat) (k : Nat) : (List.replicate k a).flatten.length = k * a.length := by
  rw [List.length_flatten, List.map_replicate, List.sum_replicate_nat]
theorem op_repS {X : Cx} : OpR X (binaryOp .Mult) rRepS := by
  intro pins s σ H x y v u Q I rx ry h
  obtain ⟨a, n, rfl, rfl, h0, h1, h2, q⟩ := h
  obtain ⟨t, rfl⟩ := rx
  obtain ⟨t2, rfl⟩ := ry
  have hb : n.toNat * a.length ≤ 1000 * 1000 := Nat.mul_le_mul (by omega) h2
  have hsz : (1000 * 1000 : Nat) ≤ sizeLine := by decide
  have fin : ∀ (z : Str) (t : Tok) (k : Nat), z = S (List.replicate n.toNat a).flatten → EP X pins σ Q (.str z t) { s with toks := k } := fun z t k e => by
    subst e
    exact ⟨.str _, H, I.tok _, ⟨_, rfl⟩, q⟩
  refine P.mul_str (by
      have e1 : ¬ n < -(2 ^ 63 : Int) := by omega
      have e2 : ¬ n ≥ 2 ^ 63 := by omega
      rw [decide_eq_false e1, decide_eq_false e2]; rfl) (fun g1 g2 => ?_) (fun g1 g2 => ?_) ?_
  · rw [S_len]
    intro z
    have e3 : (1000 : Int) ≤ (2 ^ 63 - 1) / n := Int.le_ediv_of_mul_le (by omega) (by omega)
    omega
  · rw [S_len]
    unfold PySem.Builtin.Str.tooLong
    exact decide_eq_false (by rw [Nat.mul_comm]; omega)
  · split
    · rename_i g
      have : n = 0 := by omega
      subst this
      exact ⟨by decide, fin _ _ _ rfl⟩
    · split
      · rename_i g g2
        rw [Bool.or_eq_true] at g2
        refine fin _ t s.toks ?_
        rcases g2 with g2 | g2
        · have : n = 1 := eq_of_beq g2
          subst this
          simp
        · have e4 : a.length = 0 := by have := eq_of_beq g2; rw [S_len] at this; exact this
          have : a = [] := List.eq_nil_of_length_eq_zero e4
          subst this
          simp
      · have e5 : (⟨(List.replicate n.toNat (S a).cps).foldl (· ++ ·) #[]⟩ : Str) = S (List.replicate n.toNat a).flatten := by
          have := foldl_repN a n.toNat []
          rw [List.nil_append] at this
          exact congrArg Str.mk this
        rw [e5]
        exact ⟨by rw [S_len, flat_len]; omega, fin _ _ _ rfl⟩
section
variable {c : Cf} {e a b : Expr} {es : List Expr} {Q : D → Prop} {Δ : Dl} {pos : Pos}
theorem vo_repS {x : List Nat} {n : Int} (h0 : 0 ≤ n) (h1 : n ≤ 1000) (h2 : x.length ≤ 1000) (q : Q (.str (S (List.replicate n.toNat x).flatten))) : VO c (binaryOp .Mult) (.str (S x)) (.int n) Q := fun X _ _ hX H Z v u ok r1 r2 => by
  cases r1; cases r2
  exact ⟨rRepS, op_repS, x, n, rfl, rfl, h0, h1, h2, opost ok .str q⟩
theorem vs_str {x : Str} {lo hi : Option Int} (hz : x.length ≤ sizeLine) (q : Q (.str (cutS x lo hi))) : VS c (.str x) lo hi Q := fun X _ _ hX H Z v ok r1 => by
  cases r1
  exact ⟨rSlS, sl_str, x, rfl, hz, opost ok .str q⟩
theorem we_upper {apos : Pos} (h : WE c a (fun x => ∃ s, x = .str s ∧ s.length ≤ 5592405 ∧ Q (.str (Txt.upper s))) Δ) (hb : ∀ env w, attributeBase a "upper" env w = w := by intro _ _; rfl) (hline : (apos.endLine == pos.line) = true := by rfl) :
    WE c (.Call (.Attribute a "upper" apos) [] [] pos) Q Δ := fun X H0 Z0 hX σ H Z hS => by
  refine We.of (pe_upper pe_we (hb _ _) hline) ((h X H0 Z0 hX σ H Z hS).mono fun v H1 ⟨Z1, x, s1, r1, s, ex, hz, q⟩ => ?_)
  subst ex; cases r1
  exact ⟨⟨s, rfl⟩, s, rfl, rfl, hz, Z1, _, s1, .str, q⟩
theorem wo_split {apos : Pos} {z : Expr} (h : WE c a (fun x => ∃ s, x = .str s ∧ WE c z (fun y => ∃ t, y = .str t ∧ (t.length == 0) = false ∧ s.length + 2 ≤ sizeLine ∧ Q (.ol ((Txt.split s t).map .str))) Δ) Δ)
    (hs : isStar z = false := by rfl) (hb : ∀ env w, attributeBase a "split" env w = w := by intro _ _; rfl) (hline : (apos.endLine == pos.line) = true := by rfl) : WO c (.Call (.Attribute a "split" apos) [z] [] pos) Q Δ := fun X H0 Z0 hX σ H Z hS => by
  refine We.of (pe_split pe_we pe_we (star1 hs) (hb _ _) hline) ?_
  refine (h X H0 Z0 hX σ H Z hS).mono fun v H1 ⟨Z1, x, s1, r1, s, ex, q1⟩ => ?_
  subst ex; cases r1
  refine ⟨⟨s, rfl⟩, (q1 X H0 Z0 hX σ H1 Z1 (hS.step s1)).mono fun u H2 ⟨Z2, y, s2, r2, t, ey, h1, h2, q⟩ => ?_⟩
  subst ey; cases r2
  refine ⟨s, t, rfl, rfl, h1, h2, fun p hp => oPost.mono hS.ok (s1.trans s2) (opost_newL s2.ok hp ?_ q)⟩
  have : ∀ l : List Str, Rps c.K Z2 (l.map V.str) (l.map D.str) := fun l => by
    induction l with
    | nil => exact .nil
    | cons x l ih => exact .cons .str ih
  exact this _
end
end DL
end
section
set_option Elab.async false
set_option linter.all false
set_option maxRecDepth 100000
set_option maxHeartbeats 4000000
/-! DL48: own == and != against None. -/
namespace DL
open PySem PySem.Spec PyProof.Rows L2
section
variable {c : Cf} {e a b : Expr} {es : List Expr} {Q : D → Prop} {T : Te} {Δ : Dl} {pos : Pos}
/-- x == y, x != y: x an instance of a class whose def for it is known, y None -/
theorem vo_ownN {op : CmpOp} {j : Nat} {C : Addr} {ns : List Str} {l : List D} {sp : DSp} (M : MetD c.P c.w c.K c.mg c.base j C (cmpInfo op).2.1 sp) (hj : j ≤ c.k) (hn : PySem.W.notFirst c.K C (.type "NoneType") = true) (h : sp [.ins C ns l, .non] (fun d => (∃ k, d = .bl k) ∧ Q d) fun _ => False)
    (hop : ∀ a b, compareOp op a b = richCompare op a b := by intro _ _; rfl) (hh : c.hot = none := by rfl) : VO c (compareOp op) (.ins C ns l) .non Q := fun X H0 Z0 hX H Z v u ok r1 r2 => by
  obtain ⟨f, fd, ps, hs, hf, hb, FF⟩ := M.ex
  obtain ⟨p, dx, vs, rfl, hp, _, _⟩ := r1.ins_inv ok
  cases r2
  refine ⟨fun y z H' Q' => y = .ref p ∧ z = .non ∧ H' = H ∧ ∀ v H2, oPost c.K H Z Q v H2 → Q' v H2, ?_, rfl, rfl, rfl, fun _ _ h => h⟩
  intro pins s σ H' y z vv uu Q' I ry rz ⟨e1, e2, e3, k⟩
  subst e1 e2 e3
  cases (show vv = Value.ref p from ry)
  cases (show uu = Value.none from rz)
  have rm : Room j X.A := (hX.room hh).mono hj
  obtain ⟨mA, J, _⟩ := ins_get I.hok hp
  obtain ⟨od, J, _⟩ := J.look
  obtain ⟨m, hF⟩ := I.fr
  rw [hop]
  have LT : PySem.W.Looks (model X.prog X.w) s.heap (typeOf .none) (.type "NoneType") := fun A Q E s k q => wpAny_typeOf (show s.TypeIs .none "NoneType" from rfl) q
  refine PySem.W.cmp_K (op := op) (tb := .type "NoneType") rm.units0 hF I.ok.mod.kin J LT (by rw [hX.K]; exact hn) (by rw [hX.K]; exact hs) (by rw [hX.K]; exact hf) ?_
  have hsp : lift c.K sp [.ref p, .non] H' (fun v H2 => (∃ k, v = .bl k) ∧ oPost c.K H' Z Q v H2) (fun _ _ _ => False) := by
    refine ⟨Z, _, _, _, ok, .cons r1 (.cons .non .nil), h, fun d ⟨⟨k, ed⟩, qd⟩ v H2 Z2 st rr => ?_, fun _ z => z.elim⟩
    subst ed
    rcases rr with rr | ⟨_, _, _, _, _, _, rr⟩
    · cases rr; exact ⟨⟨k, rfl⟩, Z2, _, st, .inl .bl, qd⟩
    · cases rr
  have FX := hX.fnOk FF
  have hl := FX.len _ _ _ _ hsp
  have hbb := hb s [.ref p, .none] (by have := I.kIn; rw [hX.K] at this; exact this) (by simpa using hl)
  rw [List.append_nil] at hbb
  refine wpAny_call (codeAny_mono (FX.run X.A X.stack s H' ⟨[.ref p, .none], []⟩ [.ref p, .none] [.ref p, .non] _ _ rm I.env0 hbb (.cons rfl (.cons rfl .nil)) hsp) fun r s' hq' => ?_)
  match r, hq' with
  | .error y, hq' => obtain ⟨_, _, _, _, _, _, _, _, _, _, _, _, z⟩ := hq'; exact z.elim
  | .ok .next, hq' => exact False.elim hq'
  | .ok .brk, hq' => exact False.elim hq'
  | .ok .cont, hq' => exact False.elim hq'
  | .ok (.ret w), hq' =>
    obtain ⟨z, H2, I2, rz, ⟨kk, ek⟩, ez⟩ := I.after hq'
    subst ek
    cases rz
    exact ⟨.bl kk, H2, I2, rfl, k _ _ ez⟩
end
end DL
end
section
set_option Elab.async false
set_option linter.all false
set_option maxRecDepth 100000
set_option maxHeartbeats 4000000
/-! DL49: one's own list lent to a call of which instances and dicts may come. -/
namespace DL
open PySem PySem.Spec PyProof.Rows L2
mutual
def D.noM : D → Bool
  | .non => true | .bl _ => true | .int _ => true | .str _ => true | .ty _ => true | .adr _ => true | .kep _ => true
  | .tup l => noMs l
  | .ins _ _ l => noMs l
  | .dK _ l => noMs l
  | .dT _ l => noMs l
  | .fK _ l => noMs l
  | .fT _ l => noMs l
  | _ => false
def noMs : List D → Bool
  | [] => true
  | d :: ds => d.noM && noMs ds
end
theorem unshr_keep {Z : Sh} {p q : Addr} {us : List V} {o : HO} (z : Z p = some (fz (.lst us))) (zq : Z q = some (fz o)) (h : ∀ vs, o ≠ .lst vs) : unshr Z p q = some (fz o) := by
  have ne : q ≠ p := fun e => by
    subst e
    rw [z] at zq
    exact h us (fz_inj (Option.some.inj zq)).symm
  unfold DL.unshr; rw [if_neg ne]; exact zq
theorem unshr_keepK {Z : Sh} {p q : Addr} {us : List V} {sp : KS} (z : Z p = some (fz (.lst us))) (zq : Z q = some (keptP sp)) : unshr Z p q = some (keptP sp) := by
  have ne : q ≠ p := fun e => by
    subst e
    rw [z] at zq
    exact Nk.fz sp (Option.some.inj zq)
  unfold DL.unshr; rw [if_neg ne]; exact zq
mutual
theorem Rp.unshrM {K : PySem.W.Frag} {Z : Sh} {p : Addr} {us : List V} (z : Z p = some (fz (.lst us))) : ∀ {d : D} {v : V}, d.noM = true → Rp K Z v d → Rp K (unshr Z p) v d
  | .non, _, _, .non => .non
  | .bl _, _, _, .bl => .bl
  | .int _, _, _, .int => .int
  | .str _, _, _, .str => .str
  | .ty _, _, _, .ty => .ty
  | .adr _, _, _, .adr => .adr
  | .kep _, _, _, .kep zq => .kep (unshr_keepK z zq)
  | .tup l, _, h, .tup zq r => .tup (unshr_keep z zq (fun _ e => nomatch e)) (Rps.unshrM z h r)
  | .ins _ _ l, _, h, .ins zq e r => .ins (unshr_keep z zq (fun _ e => nomatch e)) e (Rps.unshrM z h r)
  | .dK _ l, _, h, .dK zq e r => .dK (unshr_keep z zq (fun _ e => nomatch e)) e (Rps.unshrM z h r)
  | .dT _ l, _, h, .dT zq e r => .dT (unshr_keep z zq (fun _ e => nomatch e)) e (Rps.unshrM z h r)
  | .fK _ l, _, h, .fK zq e r => .fK (unshr_keep z zq (fun _ e => nomatch e)) e (Rps.unshrM z h r)
  | .fT _ l, _, h, .fT zq e r => .fT (unshr_keep z zq (fun _ e => nomatch e)) e (Rps.unshrM z h r)
theorem Rps.unshrM {K : PySem.W.Frag} {Z : Sh} {p : Addr} {us : List V} (z : Z p = some (fz (.lst us))) : ∀ {ds : List D} {vs : List V}, noMs ds = true → Rps K Z vs ds → Rps K (unshr Z p) vs ds
  | [], _, _, .nil => .nil
  | d :: ds, _, h, .cons r t => by
    have h' : (d.noM && noMs ds) = true := h
    rw [Bool.and_eq_true] at h'
    exact .cons (Rp.unshrM z h'.1 r) (Rps.unshrM z h'.2 t)
end
def D.noR : D → Bool
  | .oi _ _ _ l => noMs l
  | .ol l => noMs l
  | .oK _ _ l => noMs l
  | .oT _ _ l => noMs l
  | d => d.noM
theorem Ow.unshrM {K : PySem.W.Frag} {Z : Sh} {p q : Addr} {us : List V} {o : HO} {d : D} (z : Z p = some (fz (.lst us))) (h : d.noR = true) (r : Ow K Z q o d) : Ow K (DL.unshr Z p) q o d := by
  cases r with
  | lst r => exact .lst (Rps.unshrM z h r)
  | dK e r => exact .dK e (Rps.unshrM z h r)
  | dT e r => exact .dT e (Rps.unshrM z h r)
  | ins e r => exact .ins e (Rps.unshrM z h r)
section
variable {c : Cf} {e a b : Expr} {es : List Expr} {Q : D → Prop} {Δ : Dl} {pos : Pos} {T : Te} {st : Stmt} {sts : List Stmt}
theorem wo_lendM (i : Nat) {l : List D} (hi : Δ[i]? = some (some (.ol l))) (h : WO c e (fun r => r.noR = true ∧ Q r) (Δ.set i (some (.lst l)))) : WO c e Q Δ := fun X H0 Z0 hX σ H Z hS => by
  obtain ⟨p, o, zl, hl, hS2, ow⟩ := hS.letsO hi rfl
  have nb := ow.nbo
  obtain ⟨vs, rfl⟩ : ∃ vs, o = .lst vs := by cases ow; exact ⟨_, rfl⟩
  refine (h X H0 Z0 hX σ H _ hS2).mono fun v H' ⟨Z', r, s, rr, pt, q⟩ => ⟨_, r, DL.borrow zl hl nb s, ?_, q⟩
  have zp := s.le p _ shr_same
  rcases rr with rr | ⟨l', o', rfl, fr, z', hl', ow'⟩
  · have pt2 : r.noM = true := by
      have := not_own rr
      cases r <;> first | exact pt | cases this
    exact .inl (Rp.unshrM zp pt2 rr)
  · refine .inr ⟨l', o', rfl, fr, ?_, hl', ow'.unshrM zp pt⟩
    unfold DL.unshr
    by_cases hq : l' = p
    · rw [if_pos hq]
    · rw [if_neg hq]; exact z'
end
theorem noMs_mem : ∀ {l : List D}, (∀ d ∈ l, d.noM = true) → noMs l = true
  | [], _ => rfl
  | d :: ds, h => by
    show (d.noM && noMs ds) = true
    rw [h d List.mem_cons_self, noMs_mem fun e he => h e (List.mem_cons_of_mem _ he)]; rfl
end DL
end
section
set_option Elab.async false
set_option linter.all false
set_option maxRecDepth 100000
set_option maxHeartbeats 4000000
/-! DL50: sorted of tuples of ints, of any number and any lengths. -/
namespace DL
open PySem PySem.Spec PyProof.Rows L2
def lexL : List Int → List Int → Bool
  | [], [] => false
  | [], _ :: _ => true
  | _ :: _, [] => false
  | x :: xs, y :: ys => if x = y then lexL xs ys else decide (x < y)
theorem lexL_cons {x y : Int} {xs ys : List Int} : lexL (x :: xs) (y :: ys) = if x = y then lexL xs ys else decide (x < y) := rfl
theorem lexL_asym : ∀ {x y : List Int}, lexL x y = true → lexL y x = false
  | [], [], h => by cases h
  | [], _ :: _, _ => rfl
  | _ :: _, [], h => by cases h
  | x :: xs, y :: ys, h => by
    rw [lexL_cons] at h ⊢
    by_cases e : x = y
    · rw [if_pos e] at h; rw [if_pos e.symm]; exact lexL_asym h
    · rw [if_neg e] at h; rw [if_neg (fun q => e q.symm)]
      have h := of_decide_eq_true h
      exact decide_eq_false (by omega)
theorem lexL_tr : ∀ {x y z : List Int}, lexL y x = false → lexL z y = false → lexL z x = false
  | [], [], [], _, _ => rfl
  | [], [], _ :: _, _, _ => rfl
  | [], _ :: _, [], _, h => by cases h
  | [], _ :: _, _ :: _, _, _ => rfl
  | _ :: _, [], _, h, _ => by cases h
  | _ :: _, _ :: _, [], _, h => by cases h
  | x :: xs, y :: ys, z :: zs, h1, h2 => by
    rw [lexL_cons] at h1 h2 ⊢
    by_cases e1 : y = x
    · rw [if_pos e1] at h1
      by_cases e2 : z = y
      · rw [if_pos e2] at h2
        rw [if_pos (e2.trans e1)]; exact lexL_tr h1 h2
      · rw [if_neg e2] at h2
        have h2 := of_decide_eq_false h2
        rw [if_neg (by omega)]; exact decide_eq_false (by omega)
    · rw [if_neg e1] at h1
      have h1 := of_decide_eq_false h1
      by_cases e2 : z = y
      · rw [if_neg (by omega)]; exact decide_eq_false (by omega)
      · rw [if_neg e2] at h2
        have h2 := of_decide_eq_false h2
        rw [if_neg (by omega)]; exact decide_eq_false (by omega)
theorem lexL_tot : ∀ {x y : List Int}, lexL x y = false → lexL y x = false → x = y
  | [], [], _, _ => rfl
  | [], _ :: _, h, _ => by cases h
  | _ :: _, [], _, h => by cases h
  | x :: xs, y :: ys, h1, h2 => by
    rw [lexL_cons] at h1 h2
    by_cases e : x = y
    · rw [if_pos e] at h1; rw [if_pos e.symm] at h2
      rw [e, lexL_tot h1 h2]
    · rw [if_neg e] at h1; rw [if_neg (fun q => e q.symm)] at h2
      have h1 := of_decide_eq_false h1
      have h2 := of_decide_eq_false h2
      omega
def IsTupN (h : Heap) (v : Value) (ns : List Int) : Prop := ∃ (a : Addr) (o : Obj) (its : Array Value) (n : Nat), v = .ref a ∧ h.get? a = some o ∧ o.cls = .type "tuple" ∧ o.data = .seq its n ∧ Vals (ns.map V.int) its.toList
theorem IsTupN.keeps {h h' : Heap} {v : Value} {ns : List Int} (p : IsTupN h v ns) (k : ∀ b o, h.get? b = some o → o.cls = .type "tuple" → h'.get? b = some o) : IsTupN h' v ns := by
  obtain ⟨a, o, its, n, e, ho, hc, hd, hv⟩ := p
  exact ⟨a, o, its, n, e, k a o ho hc, hc, hd, hv⟩
section
variable {prog : Program} {w : World} {A : Around} {E : Value → Shared → Prop} {s : Shared}
theorem kat_ints {N M : Nat} : ∀ (ns ms : List Int) (us ws : List Value) (i : Nat), Vals (ns.map V.int) us → Vals (ms.map V.int) ws → i + ns.length = N → i + ms.length = M → ∀ Q : Bool → Shared → Prop, Q (lexL ns ms) s → PySem.W.KatLex prog w A true (decide (N < M)) Q (us.zip ws) i s
  | [], [], _, _, i, .nil, .nil, e1, e2, Q, q => by
    have : decide (N < M) = false := decide_eq_false (by simp at e1 e2; omega)
    rw [this]; exact q
  | [], m :: ms, _, _, i, .nil, .cons _ _, e1, e2, Q, q => by
    have : decide (N < M) = true := decide_eq_true (by simp at e1 e2; omega)
    rw [this]; exact q
  | n :: ns, [], _, _, i, .cons _ _, .nil, e1, e2, Q, q => by
    have : decide (N < M) = false := decide_eq_false (by simp at e1 e2; omega)
    rw [this]; exact q
  | n :: ns, m :: ms, _, _, i, .cons (b := u) r1 t1, .cons (b := v) r2 t2, e1, e2, Q, q => by
    obtain ⟨tk, rfl⟩ := r1
    obtain ⟨tl, rfl⟩ := r2
    refine PySem.W.kat_cons (SeqAt.EqAt.int_int n tk m tl prog w _ _ ?_)
    rw [lexL_cons] at q
    refine PySem.W.kat_go (fun e => ?_) (fun e => ?_)
    · have e : n = m := by simpa using e
      rw [if_pos e] at q
      exact PySem.W.kat_yes (kat_ints ns ms _ _ (i + 1) t1 t2 (by simp at e1; omega) (by simp at e2; omega) Q q)
    · have e : ¬ n = m := by simpa using e
      rw [if_neg e] at q
      exact PySem.W.kat_no (TS.oneLt_ints _ q)
theorem tupsN_cmp {vs : List Value} {k : Value → List Int} (hp : ∀ v ∈ vs, IsTupN s.heap v (k v)) : SrtO.Cmp prog w A s (tuples' true) (fun p => p.1 ∈ vs) (SrtO.lt2 fun v u => lexL (k v) (k u)) := by
  intro p q hm hm'
  obtain ⟨a, o, its, n, e, ho, hc, hd, hv⟩ := hp _ hm
  obtain ⟨a', o', its', n', e', ho', hc', hd', hv'⟩ := hp _ hm'
  show wpAny (model prog w) A (keyLt' (tuples' true) p.1 q.1) (fun r s' => s' = s ∧ r = lexL (k p.1) (k q.1)) (fun _ _ => False) s
  generalize k p.1 = x at *
  generalize k q.1 = y at *
  rw [e, e']
  refine PySem.W.kat_lt ho hd ho' hd' ?_
  have l1 := hv.length
  have l2 := hv'.length
  rw [List.length_map] at l1 l2
  exact kat_ints x y _ _ 0 hv hv' (by rw [Nat.zero_add, l1, Array.length_toList]) (by rw [Nat.zero_add, l2, Array.length_toList]) _ ⟨rfl, rfl⟩
theorem firstsN {h : Heap} : ∀ {vs : List Value}, (∀ v ∈ vs, ∃ x ns, IsTupN h v (x :: ns)) → ∃ fs : List Value, PySem.W.KatTups h vs fs ∧ fs.length = vs.length ∧ ∀ f ∈ fs, ∃ x t, f = Value.int x t
  | [], _ => ⟨[], PySem.W.KatTups.nil, rfl, fun _ hm => by simp at hm⟩
  | v :: vs, hp => by
    obtain ⟨fs, h1, h2, h3⟩ := firstsN (vs := vs) fun v' hm => hp v' (List.mem_cons_of_mem _ hm)
    obtain ⟨x, ns, a, o, its, n, e, ho, hc, hd, hv⟩ := hp v List.mem_cons_self
    subst e
    obtain ⟨u, hu, t, eu⟩ := hv.get (i := 0) (x := V.int x) rfl
    refine ⟨.int x t :: fs, PySem.W.KatTups.cons ho hc hd (by rw [← eu, ← Array.getElem?_toList]; exact hu) h1, by rw [List.length_cons, List.length_cons, h2], fun f hm => ?_⟩
    rcases List.mem_cons.mp hm with rfl | hm
    · exact ⟨x, t, rfl⟩
    · exact h3 f hm
theorem tupsN_sortable {a : Addr} {vs : List Value} {k : Value → List Int} (h0 : 0 < vs.length) (hp : ∀ v ∈ vs, IsTupN s.heap v (k v)) (hne : ∀ v ∈ vs, k v ≠ []) (ha : ∀ o, s.heap.get? a = some o → o.cls ≠ .type "tuple") : SrtO.SortableO prog w A s a vs fun v u => lexL (k v) (k u) := by
  intro h' keep
  have hp' : ∀ v ∈ vs, IsTupN h' v (k v) := fun v hm => (hp v hm).keeps fun b o e c => keep b o (fun z => by subst z; exact ha o e c) e
  obtain ⟨fs, h1, h2, h3⟩ := firstsN (h := h') (vs := vs) fun v hm => by
    have h := hp' v hm
    cases e : k v with
    | nil => exact absurd e (hne v hm)
    | cons x ns => rw [e] at h; exact ⟨x, ns, h⟩
  refine ⟨tuples' true, fun Q E hq => ?_, tupsN_cmp hp'⟩
  refine PySem.W.kat_kind (T := .type "int") h1 (by omega) (fun f hm => ?_) (by rfl) ?_
  · obtain ⟨x, t, rfl⟩ := h3 f hm
    exact PySem.W.Looks.now
  · have e : (Value.type "int" != Value.type "tuple") = true := by first | decide +kernel | rfl | decide
    rw [e]
    exact hq
theorem swoN (k : Value → List Int) : SrtO.Swo fun v u => lexL (k v) (k u) := ⟨fun _ _ h => lexL_asym h, fun _ _ _ h1 h2 => lexL_tr h1 h2⟩
theorem sorted_tupsN {l : Addr} {vs : List Value} {k : Value → List Int} {Q : Value → Shared → Prop} (hl : s.heap.IsList l vs.toArray) (hz : vs.length ≤ sizeLine) (hp : ∀ v ∈ vs, IsTupN s.heap v (k v)) (hne : ∀ v ∈ vs, k v ≠ [])
    (h : ∀ (h' : Heap) (d : Addr) (out : List Value), SrtO.Srtd (fun v u => lexL (k v) (k u)) out → out.Perm vs → (∀ b o, s.heap.get? b = some o → h'.get? b = some o) → s.heap.objs.size ≤ d → (∃ n, h'.get? d = some (seqObj "list" out.toArray n)) → Q (.ref d) { s with heap := h' }) :
    wpAny (model prog w) A (call (.builtin "sorted") [.ref l]) Q E s := by
  refine SrtO.sorted_ord (swoN k) hl hz (fun h2 h₁ a ha kk => ?_) fun out hs hb => ?_
  · refine tupsN_sortable (s := { s with heap := h₁ }) (by omega) (fun v hm => (hp v hm).keeps fun b o e _ => (kk b o e).2) hne fun o e => ?_
    have e' : some o = some (seqObj "list" vs.toArray 0) := e.symm.trans ha
    cases e'
    intro c
    exact absurd (Value.type.inj c) (by decide)
  · exact h _ _ out hs hb.perm (fun b o e => sortedAll_old e) (Nat.le_succ _) (sortedAll_at s.heap vs out.toArray)
end
/-- sorted(xs), xs a list of tuples of ints, none empty: a new list of the same, ascending -/
def rSortN (K : PySem.W.Frag) : List V → Hp → VK → Prop := fun vs H Q => ∃ (a : Addr) (xs : List V), vs = [V.ref a] ∧ SqL K H a xs ∧ (∀ x ∈ xs, ∃ ns, TupI K H x ns ∧ ns ≠ []) ∧
  ∀ (ys : List V) (p : Addr), ys.Perm xs → ys.Pairwise (fun x y => ∀ n m, TupI K H x n → TupI K H y m → lexL m n = false) → H p = none → Q (.ref p) (upd H p (.lst ys))
open Classical in
theorem cr_sortN {X : Cx} : CallR X (.builtin "sorted") (rSortN X.K) := by
  intro pins s σ H vs us Q I r h
  obtain ⟨a, xs, rfl, hs, hx, q⟩ := h
  obtain ⟨its, rv, hl, hz⟩ := I.list hs
  rw [Vals.ref1 r]
  obtain ⟨e1, e2⟩ := bkV_refs rv fun x m => by
    obtain ⟨ns, ⟨t, e, _⟩, _⟩ := hx x m
    exact ⟨t, e⟩
  have hall : ∀ v ∈ its, ∃ ns, IsTupN s.heap v ns ∧ ns ≠ [] ∧ ∀ m, TupI X.K H (bkV v) m → m = ns := fun v hv => by
    obtain ⟨t, rfl⟩ := e2 v hv
    have hm : V.ref t ∈ xs := by
      rw [e1]
      exact List.mem_map.mpr ⟨_, hv, rfl⟩
    obtain ⟨ns, ⟨t', e, ht⟩, hn⟩ := hx _ hm
    cases e
    obtain ⟨its2, rv2, hT, _⟩ := I.tuple ht
    obtain ⟨o, ho, hc, n, hd⟩ := hT
    refine ⟨ns, ⟨t, o, its2.toArray, n, rfl, ho, hc, hd, by simpa using rv2⟩, hn, fun m hm2 => ?_⟩
    obtain ⟨t2, e, ht2⟩ := hm2
    cases e
    have i1 := (tupI_raw I ht).ints
    have i2 := (tupI_raw I ht2).ints
    exact i2.symm.trans i1
  obtain ⟨k, hk⟩ : ∃ k : Value → List Int, ∀ v ∈ its, IsTupN s.heap v (k v) ∧ k v ≠ [] ∧ ∀ m, TupI X.K H (bkV v) m → m = k v := by
    refine ⟨fun v => if h : v ∈ its then (hall v h).choose else [0], fun v hv => ?_⟩
    dsimp only
    rw [dif_pos hv]
    exact (hall v hv).choose_spec
  refine sorted_tupsN (k := k) hl.isList (by rw [← rv.length]; exact hz) (fun v hv => (hk v hv).1) (fun v hv => (hk v hv).2.1) fun h' d out h1 h2 kp hd hn => ?_
  have h3 : ∀ u ∈ out, ∃ a, u = Value.ref a := fun u hu => e2 u (h2.mem_iff.mp hu)
  obtain ⟨n, hn⟩ := hn
  have hp : (out.map bkV).Perm xs := by
    rw [e1]
    exact h2.map bkV
  refine ⟨.ref d, upd H d (.lst (out.map bkV)), I.laid (t' := s.toks) kp hd ⟨?_, out, n, bkV_vals h3, hn⟩, rfl, q _ d hp ?_ (I.hok.fresh hd)⟩
  · rw [hp.length_eq]; exact hz
  rw [List.pairwise_map]
  refine List.Pairwise.imp_of_mem (fun {u v} hu hv huv n m hn hm => ?_) h1
  rw [(hk u (h2.mem_iff.mp hu)).2.2 n hn, (hk v (h2.mem_iff.mp hv)).2.2 m hm]
  exact huv
section
variable {c : Cf} {Q : D → Prop}
theorem pair_ofN {K : PySem.W.Frag} {Z : Sh} {H : Hp} (ok : OkZ H Z) : ∀ {ys : List V} {m : List (List Int)}, Rps K Z ys (m.map tI) → ys.Pairwise (fun x y => ∀ n m, TupI K H x n → TupI K H y m → lexL m n = false) → m.Pairwise fun x y => lexL y x = false
  | [], [], .nil, _ => .nil
  | v :: ys, a :: m, .cons r t, h => by
    rw [List.pairwise_cons] at h ⊢
    refine ⟨fun b hb => ?_, pair_ofN ok t h.2⟩
    obtain ⟨j, hj, ej⟩ := List.getElem_of_mem hb
    have e : (m.map tI)[j]? = some (tI b) := by rw [List.getElem?_map, List.getElem?_eq_getElem hj, ej]; rfl
    obtain ⟨w, hw, rw'⟩ := t.get e
    exact h.1 w (List.mem_of_getElem? hw) a b (tupI_of ok r) (tupI_of ok rw')
theorem vc_sortN {l : List (List Int)} (hl : ∀ ns ∈ l, ns ≠ []) (q : ∀ m : List (List Int), m.Perm l → m.Pairwise (fun x y => lexL y x = false) → Q (.ol (m.map tI))) : VC c (.builtin "sorted") [.lst (l.map tI)] Q := fun X _ _ hX H Z vs ok r => by
  obtain ⟨v, rfl, r1⟩ := r.one
  obtain ⟨p, ws, rfl, hp, _, rr⟩ := r1.lst_inv ok
  refine ⟨_, cr_sortN, p, ws, rfl, .of hp, fun x hx => ?_, fun ys p' hperm hpw hp' => ?_⟩
  · obtain ⟨j, hj, ej⟩ := List.getElem_of_mem hx
    obtain ⟨dd, hd', rd⟩ := rr.getV (List.getElem?_eq_getElem hj)
    rw [List.getElem?_map] at hd'
    cases hk : l[j]? with
    | none => rw [hk] at hd'; cases hd'
    | some ns =>
      rw [hk] at hd'; cases hd'
      rw [ej] at rd
      exact ⟨ns, by rw [hX.K]; exact tupI_of ok rd, hl ns (List.mem_of_getElem? hk)⟩
  · obtain ⟨m, pm, rm⟩ := rr.permT hperm
    rw [hX.K] at hpw
    exact opost_newL ok hp' rm (q m pm (pair_ofN ok rm hpw))
end
end DL
end
section
set_option Elab.async false
set_option linter.all false
set_option maxRecDepth 100000
set_option maxHeartbeats 4000000
/-! DL51: a zip in a name, made a tuple. -/
namespace DL
open PySem PySem.Spec PyProof.Rows L2
section
variable {c : Cf} {e a b : Expr} {es : List Expr} {Q : D → Prop} {T : Te} {Δ : Dl} {pos : Pos}
/-- x = zip(a, b); return tuple([elt for tg in x]) -/
theorem wb_zipTup {x : Str} {elt : Expr} {ts : List Expr} {kk : Nat} {tp px p2 p3 p4 p5 p6 p7 p8 p9 : Pos} {scope : Scope} (i : Nat) (own : List (Str × Nat)) (ok : blkB c.N c.sc scope own = true)
    (hil : i < Δ.length) (hi : c.N[i]? = some x) (hx : Loc c.sc x) (hv : Vis c.sc x) (hgz : Glo c "zip") (hmz : c.mg "zip" = none) (hga : Glo c "tuple") (hma : c.mg "tuple" = none)
    (h : WE c a (fun u => WE c b (fun v => ∃ xs ys, IsSeq u xs ∧ IsSeq v ys ∧ (pairs xs ys).length ≤ sizeLine ∧ ∃ I : List D → List D → Prop, I [] [] ∧
      (∀ pre y post acc, pairs xs ys = pre ++ y :: post → acc.length ≤ pre.length → I pre acc → WG (c.blk scope) (own.map (·.2)) (.Tuple ts kk tp) y (fun Δ2 => WTs (c.blk scope) [] (fun k => if k = true then WE (c.blk scope) elt (fun y2 => I (pre ++ [y]) (acc ++ [y2])) Δ2 else I (pre ++ [y]) acc) Δ2) (wipeD (Δ.set i none) (own.map (·.2)))) ∧
      ∀ acc, acc.length ≤ (pairs xs ys).length → I (pairs xs ys) acc → T.rt (.tup acc) (Δ.set i none)) Δ) Δ)
    (hst : c.st x = true := by rfl) (hs : isStar a = false := by rfl) (hs2 : isStar b = false := by rfl) (hh : c.hot = none := by rfl) (hd : (x == ("__debug__" : Str)) = false := by decide) (hcd : (x == ("__classdict__" : Str)) = false := by decide)
    (hsw : ∀ env, swapsWith (.Call (.Name "zip" p2) [a, b] [] p3) (some (.Name x px)) p4.line env = pure false := by intro _; rfl) (hfs : ∀ env y, foldedSetIterable (.Name x p6) env y = pure y := by intro _ _; rfl) :
    WB c [.Assign [.Name x px] (.Call (.Name "zip" p2) [a, b] [] p3) p4, .Return (some (.Call (.Name "tuple" p5) [.ListComp elt [⟨.Tuple ts kk tp, .Name x p6, [], 0⟩] scope p7] [] p8)) p9] T Δ := fun X H0 Z0 hX σ H Z hS => by
  have hXo := hX.toCtxOk
  refine Wss.of (pss_cons (ps_set (by rw [hX.N]; exact hX.nd) (by rw [hX.N]; exact hi) (hXo.loc hx) (pe_zipO (hXo.gl hgz) (by rw [hX.mg]; exact hmz) (pa_cons pe_we (pa_cons pe_we pa_nil (star1 hs2)) (star1 hs)) (star1 hs) (by rw [star1 hs2]; rfl)) (hsw _) (by rw [hX.sc]; exact hX.fn x hst hx))
    (pss_one (ps_ret (pe_callTy call_any (hXo.gl hga) (by rw [hX.mg]; exact hma) boot_tuple (pa_cons (pe_lc (hXo.calm hh) (by rw [hX.N]; exact hX.nd) (pi_zipV (i := i) (by rw [hX.N]; exact hi) (by rw [hX.sc]; exact hv) hd hcd) (by rw [hX.N, hX.sc]; exact blkOk_of ok) pg_b pt_b pe_b (hfs X.env)) pa_nil))))) ?_
  refine (h X H0 Z0 hXo σ H Z hS).mono fun v H1 ⟨Z1, u, s1, r1, q1⟩ => ?_
  refine (q1 X H0 Z0 hXo σ H1 Z1 (hS.step s1)).mono fun v2 H2 ⟨Z2, u2, s2, r2, xs, ys, hx1, hy1, hlen, I, i0, turn, fin⟩ => ?_
  obtain ⟨k1, pa, vs, rfl, rr1, g1⟩ := seqK s2.ok hx1 (r1.le s2.le)
  obtain ⟨k2, pb, ws, rfl, rr2, g2⟩ := seqK s2.ok hy1 r2
  refine ⟨k1, k2, pa, pb, vs, ws, rfl, by rw [hX.K]; exact g1 H2 Z2 (.refl _) s2.ok, by rw [hX.K]; exact g2 H2 Z2 (.refl _) s2.ok, fun z ps zo => ?_⟩
  have hS2 : Slots c.K H0 Z0 σ H2 Z2 Δ := (hS.step s1).step s2
  have hlt : i < σ.length := by
    rw [hS.len]; exact hil
  have hS3 : Slots c.K H0 Z0 (σ.set i (some (.ref z))) H2 Z2 (Δ.set i none) := by
    have := (hS2.set i (v := .ref z) (d := .adr z) .adr).drop i
    rw [List.set_set] at this
    exact this
  refine ⟨z, ps, k1, k2, vs.length, ws.length, pa, pb, H2, by rw [List.getElem?_set_self hlt], rfl, zo, ?_⟩
  have yl : Yl c.K (ItX X.K k1 k2 vs.length ws.length pa pb) H2 Z2 (pairs xs ys) := fun H' Z' le ok i => ⟨fun d hd => ?_, fun hn => ?_⟩
  rotate_left
  · obtain ⟨x, y, hx, hy, rfl⟩ := pairs_get hd
    obtain ⟨vx, ex, rx⟩ := rr1.get hx
    obtain ⟨vy, ey, ry⟩ := rr2.get hy
    rw [hX.K]
    refine ⟨⟨vs, ws, vx, vy, g1 H' Z' le ok, g2 H' Z' le ok, rfl, rfl, ex, ey⟩, fun v H'' ⟨T, x', y', ev, hT, eH, g1', g2'⟩ => ?_⟩
    subst ev eH
    have e1 := g1' vs (g1 H' Z' le ok)
    have e2 := g2' ws (g2 H' Z' le ok)
    rw [ex] at e1; rw [ey] at e2
    cases e1; cases e2
    have s3 : Stp H' Z' (upd H' T (.tup [vx, vy])) (shr Z' T (fz (.tup [vx, vy]))) := .newS ok hT rfl
    exact ⟨_, s3, .tup shr_same (.cons ((rx.le le).le s3.le) (.cons ((ry.le le).le s3.le) .nil))⟩
  · rw [hX.K]
    refine ⟨vs, ws, g1 H' Z' le ok, g2 H' Z' le ok, rfl, rfl, ?_⟩
    rw [rr1.length, rr2.length]; exact pairs_none hn
  intro Dl hD
  obtain ⟨W, w0, wt⟩ := lc_in (Q := fun d => ∃ acc, d = .ol acc ∧ T.rt (.tup acc) (Δ.set i none)) hlen i0 turn (fun acc hl hI => ⟨acc, rfl, fin acc hl hI⟩) hh hXo hS3 yl Dl hD
  refine ⟨W, w0, fun j m Hj hW => ?_⟩
  rcases wt j m Hj hW with ⟨st, Z3, d, s3, r3, acc, rfl, q⟩ | go
  · refine .inl ⟨st, ?_⟩
    obtain ⟨Z4, _, s4, r4⟩ := r3.freeze s3
    obtain ⟨r, hr, q5⟩ := vc_tupL (c := c) (Q := fun d => d = .tup acc) rfl X H0 Z0 hXo Hj Z4 [.ref Dl] s4.ok (.cons r4 .nil)
    refine ⟨fun xs H Q0 => xs = [.ref Dl] ∧ H = Hj ∧ r [.ref Dl] Hj (oPost c.K Hj Z4 fun d => d = .tup acc) ∧ ∀ z H', oPost c.K Hj Z4 (fun d => d = .tup acc) z H' → Q0 z H', fun pins s σ H xs us Q0 I rx ⟨ex, eH, k, m⟩ => ?_, rfl, rfl, q5, fun v3 H3 ⟨Z5, d5, s5, r5, e5⟩ => ?_⟩
    · subst ex; subst eH
      exact thn (hr pins s σ _ _ us _ I rx k) fun _ _ ⟨z, H', I', rz, qz⟩ => ⟨z, H', I', rz, m z H' qz⟩
    · subst e5
      exact ⟨Z5, _, _, _, (hS3.step s4).step s5, r5.base hS3.ok0 ((hS3.step s4)).stp, q⟩
  · exact .inr go
end
end DL
end
section
set_option Elab.async false
set_option linter.all false
set_option maxRecDepth 100000
set_option maxHeartbeats 4000000
/-! DL52: a tuple so many times, any number from 0 on. -/
namespace DL
open PySem PySem.Spec PyProof.Rows L2
section
open AutoSeq1 (wpAny_loadPart')
theorem tuple_mulS (l : Addr) (items : Array Value) (n : Nat) (dd : Option Addr) (sl : Array (Option Value)) (x : Int) (u : Tok) (c0 : (decide (x < -(2 ^ 63)) || decide (x ≥ 2 ^ 63)) = false) (c1 : (items.isEmpty || x == 1) = true) :
    Meets (Builtin.«tuple.__mul__» ⟨[.ref l, .int x u], []⟩) (fun _ R s => s.heap.get? l = some { cls := .type "tuple", dict := dd, data := .seq items n, slots := sl } ∧ R (.ok (.ret (Value.ref l))) s) :=
  .of_wp fun prog w A R s h => by
    obtain ⟨hp, g, d, tk, os⟩ := s
    obtain ⟨hl, h⟩ := h
    have f1 := AutoSeq1.idx_int
    wp_walk using wpAny_loadPart' hl
    repeat (first
      | (refine wpAny_ite_false (decide_eq_false (by rw [c0]; exact Bool.false_ne_true)) ?_; wp_walk using wpAny_loadPart' hl)
      | (refine wpAny_ite_true (decide_eq_true c1) ?_; wp_walk using wpAny_loadPart' hl))
    exact ⟨_, rfl, h⟩
theorem tuple_mul0 (l : Addr) (items : Array Value) (n : Nat) (dd : Option Addr) (sl : Array (Option Value)) (x : Int) (u : Tok) (c0 : (decide (x < -(2 ^ 63)) || decide (x ≥ 2 ^ 63)) = false) (c1 : (items.isEmpty || x == 1) = false) (c2 : (decide (x ≤ 0) || items.isEmpty) = true) :
    Meets (Builtin.«tuple.__mul__» ⟨[.ref l, .int x u], []⟩) (fun _ R s => s.heap.get? l = some { cls := .type "tuple", dict := dd, data := .seq items n, slots := sl } ∧
      R (.ok (.ret (Value.ref s.heap.objs.size))) { s with heap := s.heap.push { cls := Value.type "tuple", data := Data.seq #[] }, toks := s.toks }) :=
  .of_wp fun prog w A R s h => by
    obtain ⟨hp, g, d, tk, os⟩ := s
    obtain ⟨hl, h⟩ := h
    have f1 := AutoSeq1.idx_int
    wp_walk using wpAny_loadPart' hl
    repeat (first
      | (refine wpAny_ite_false (decide_eq_false (by rw [c0]; exact Bool.false_ne_true)) ?_; wp_walk using wpAny_loadPart' hl)
      | (refine wpAny_ite_false (decide_eq_false (by rw [c1]; exact Bool.false_ne_true)) ?_; wp_walk using wpAny_loadPart' hl)
      | (refine wpAny_ite_true (decide_eq_true c2) ?_; wp_walk using wpAny_loadPart' hl)
      | (refine wpAny_ite_false (decide_eq_false (by rw [sizeLine_eq]; decide)) ?_; wp_walk using wpAny_loadPart' hl))
    exact ⟨_, rfl, h⟩
end
def rRepN (K : PySem.W.Frag) : R2 := fun x y H Q => ∃ l k xs, x = .ref l ∧ y = .int k ∧ SqT K H l xs ∧ 0 ≤ k ∧ k ≤ 1000000 ∧ k.toNat * xs.length ≤ 1000000 ∧
  if xs = [] ∨ k = 1 then Q (.ref l) H else ∀ p, H p = none → Q (.ref p) (upd H p (.tup (List.replicate k.toNat xs).flatten))
section
variable {X : Cx}
theorem op_repN : OpR X (binaryOp .Mult) (rRepN X.K) := by
  intro pins s σ H x y v u Q I rx ry h
  obtain ⟨l, k, xs, rfl, rfl, hT, h1, h2, hz, q⟩ := h
  cases rx
  obtain ⟨t, rfl⟩ := ry
  obtain ⟨its, r, ⟨⟨cls, dd, data, sl⟩, ho, hc, n, hd⟩, hs⟩ := I.tuple hT
  simp only at hc hd
  subst hc hd
  have hle : its.length = xs.length := r.length.symm
  have c0 : (decide (k < -(2 ^ 63)) || decide (k ≥ 2 ^ 63)) = false := by
    rw [decide_eq_false (by omega), decide_eq_false (by omega)] <;> rfl
  have nilIff : its = [] ↔ xs = [] := by
    rw [← List.length_eq_zero_iff, hle, List.length_eq_zero_iff]
  by_cases hsame : xs = [] ∨ k = 1
  · rw [if_pos hsame] at q
    have c1 : (its.toArray.isEmpty || k == 1) = true := by
      rcases hsame with e | e
      · rw [nilIff.mpr e]; rfl
      · rw [e]; simp
    refine wpAny_binaryOp_repeat_ref (T := "tuple") (U := "int") (by decide) ⟨_, ho, rfl⟩ (fun s' => typeIs_int s' k t) noFill_tuple_mul F.fills_int_mul F.slot_int_rmul repeat_tuple F.slot_int_index.lookup
      (call_meets F.slot_int_rmul (typeIs_int s k t) F.entry_int_rmul (F.args_int_rmul_2 _ _) (int_rmul_tuple k t l its.toArray n dd sl)
        ⟨ho, rfl, ⟨_, ho, rfl⟩, call_meets F.slot_tuple_mul ⟨_, ho, rfl⟩ F.entry_tuple_mul (F.args_tuple_mul_2 _ _) (tuple_mulS l its.toArray n dd sl k t c0 c1) ⟨ho, ?_⟩⟩)
    exact ⟨.ref l, H, I, rfl, q⟩
  rw [if_neg hsame] at q
  have hne : xs ≠ [] := fun e => hsame (.inl e)
  have hk1 : k ≠ 1 := fun e => hsame (.inr e)
  have hn : its ≠ [] := fun e => hne (nilIff.mp e)
  have hi : its.toArray.isEmpty = false := by
    cases its with
    | nil => exact absurd rfl hn
    | cons a b => rfl
  have c1 : (its.toArray.isEmpty || k == 1) = false := by
    rw [hi, Bool.false_or]
    exact beq_eq_false_iff_ne.mpr hk1
  by_cases hk0 : k = 0
  · have c2 : (decide (k ≤ 0) || its.toArray.isEmpty) = true := by rw [decide_eq_true (by omega)]; rfl
    refine wpAny_binaryOp_repeat_ref (T := "tuple") (U := "int") (by decide) ⟨_, ho, rfl⟩ (fun s' => typeIs_int s' k t) noFill_tuple_mul F.fills_int_mul F.slot_int_rmul repeat_tuple F.slot_int_index.lookup
      (call_meets F.slot_int_rmul (typeIs_int s k t) F.entry_int_rmul (F.args_int_rmul_2 _ _) (int_rmul_tuple k t l its.toArray n dd sl)
        ⟨ho, rfl, ⟨_, ho, rfl⟩, call_meets F.slot_tuple_mul ⟨_, ho, rfl⟩ F.entry_tuple_mul (F.args_tuple_mul_2 _ _) (tuple_mul0 l its.toArray n dd sl k t c0 c1 c2) ⟨ho, ?_⟩⟩)
    have ez : (List.replicate k.toNat xs).flatten = [] := by rw [hk0]; rfl
    rw [ez] at q
    refine ⟨.ref s.heap.objs.size, _, I.laid (t' := s.toks) (o := .tup []) (fun b ob q => Heap.get?_push_of_some _ q) (Nat.le_refl _) ?_, rfl, q _ (I.hok.fresh (Nat.le_refl _))⟩
    exact ⟨Nat.zero_le _, [], .nil, IsTup.new _ _⟩
  have flen : (List.replicate k.toNat its).flatten.length ≤ sizeLine := by
    rw [PyProof.Rows.lm_len_rep_flat, hle, sizeLine_eq]; exact Nat.le_trans hz (by decide)
  have hm : ((its.toArray.size : Nat) : Int) * k ≤ 1000000 := by
    rw [List.size_toArray, hle]
    have e1 : (k.toNat : Int) = k := Int.toNat_of_nonneg h1
    have e2 : ((k.toNat * xs.length : Nat) : Int) ≤ 1000000 := by omega
    rw [Int.natCast_mul, e1, Int.mul_comm] at e2
    exact e2
  have c2 : (decide (k ≤ 0) || its.toArray.isEmpty) = false := by
    rw [hi, Bool.or_false]
    exact decide_eq_false (by omega)
  have c4 : Builtin.Tuple.tupleTooMany (((its.toArray.size : Nat) : Int) * k) = false := by
    unfold Builtin.Tuple.tupleTooMany
    rw [sizeLine_eq]
    exact decide_eq_false (by omega)
  refine wpAny_binaryOp_repeat_ref (T := "tuple") (U := "int") (by decide) ⟨_, ho, rfl⟩ (fun s' => typeIs_int s' k t) noFill_tuple_mul F.fills_int_mul F.slot_int_rmul repeat_tuple F.slot_int_index.lookup
    (call_meets F.slot_int_rmul (typeIs_int s k t) F.entry_int_rmul (F.args_int_rmul_2 _ _) (int_rmul_tuple k t l its.toArray n dd sl)
      ⟨ho, rfl, ⟨_, ho, rfl⟩, call_meets F.slot_tuple_mul ⟨_, ho, rfl⟩ F.entry_tuple_mul (F.args_tuple_mul_2 _ _) (tuple_mulW l its.toArray n dd sl k t c0 c1 c2 (by omega) c4 (by rw [size_rep, List.size_toArray]; exact flen)) ⟨ho, ?_⟩⟩)
  rw [size_rep]
  refine ⟨.ref s.heap.objs.size, _, I.laid (t' := s.toks) (o := .tup (List.replicate k.toNat xs).flatten) (fun b ob q => Heap.get?_push_of_some _ q) (Nat.le_refl _) ?_, rfl, q _ (I.hok.fresh (Nat.le_refl _))⟩
  exact ⟨by rw [PyProof.Rows.lm_len_rep_flat, sizeLine_eq]; exact Nat.le_trans hz (by decide), _, r.rep k.toNat, IsTup.new _ _⟩
end
section
variable {c : Cf} {Q : D → Prop}
theorem vo_repN {xs : List D} {k : Int} (h0 : 0 ≤ k) (h1 : k ≤ 1000000) (hl : k.toNat * xs.length ≤ 1000000) (q : Q (.tup (List.replicate k.toNat xs).flatten)) : VO c (binaryOp .Mult) (.tup xs) (.int k) Q := fun X _ _ hX H Z v u ok r1 r2 => by
  have r1' := r1
  cases r2
  obtain ⟨p, vs, rfl, hp, zp, rr⟩ := r1.tup_inv ok
  refine ⟨rRepN X.K, op_repN, p, k, vs, rfl, rfl, .of hp, h0, h1, by rw [rr.length]; exact hl, ?_⟩
  by_cases hs : vs = [] ∨ k = 1
  · rw [if_pos hs]
    refine opost ok r1' ?_
    have e2 : (List.replicate k.toNat xs).flatten = xs := by
      rcases hs with e | e
      · rw [e] at rr; cases rr; induction k.toNat <;> simp
      · rw [e]; simp
    rw [e2] at q
    exact q
  · rw [if_neg hs]
    exact fun q' hq => opost_newT ok hq (rr.rep k.toNat) q
end
end DL
end
section
set_option Elab.async false
set_option linter.all false
set_option maxRecDepth 100000
set_option maxHeartbeats 4000000
/-! DL53: range(a, b, -1); max of a list of ints. -/
namespace DL
open PySem PySem.Spec PyProof.Rows L2
section
variable {c : Cf} {Δ : List (Option D)} {a b e : Expr} {pos : Pos} {Q : D → Prop}
def rngD (lo : Int) (n : Nat) : List D := (List.range n).map fun i => .int (lo - (i : Nat))
theorem rngD_get {lo : Int} {n i : Nat} (h : i < n) : (rngD lo n)[i]? = some (.int (lo - (i : Nat))) := by
  unfold rngD; rw [List.getElem?_map, List.getElem?_range h]; rfl
theorem rngD_len (lo : Int) (n : Nat) : (rngD lo n).length = n := by unfold rngD; rw [List.length_map, List.length_range]
theorem rngD_split {lo : Int} {n : Nat} {pre post : List D} {x : D} (h : rngD lo n = pre ++ x :: post) : x = .int (lo - (pre.length : Int)) ∧ pre.length < n := by
  have e : (rngD lo n)[pre.length]? = some x := by rw [h, List.getElem?_append_right (Nat.le_refl _), Nat.sub_self]; rfl
  have hi : pre.length < n := by have := (List.getElem?_eq_some_iff.mp e).1; rwa [rngD_len] at this
  rw [rngD_get hi] at e; cases e
  exact ⟨rfl, hi⟩
theorem yl_rangeD {K : PySem.W.Frag} {H : Hp} {Z : Sh} {lo : Int} {n : Nat} : Yl K (Itc lo (-1) n) H Z (rngD lo n) := fun H' Z' le ok i => ⟨fun x hx => by
    have hi : i < n := by have := (List.getElem?_eq_some_iff.mp hx).1; rwa [rngD_len] at this
    rw [rngD_get hi] at hx; cases hx
    exact ⟨hi, fun v H'' ⟨e1, e2⟩ => by subst e1; subst e2; exact ⟨Z', .refl ok, (show lo + (i : Int) * -1 = lo - (i : Int) by omega) ▸ Rp.int⟩⟩, fun hn => by
    have := List.getElem?_eq_none_iff.mp hn; rw [rngD_len] at this; exact this⟩
theorem wi_rangeD {tg d : Expr} {p : Pos} {Q : List D → Prop} (hg : Glo c "range") (hm : c.mg "range" = none) (h : WE c a (fun x => ∃ m, x = .int m ∧ WE c b (fun y => ∃ n, y = .int n ∧ WE c d (fun z => z = .int (-1) ∧ (-(2 ^ 62) ≤ m ∧ m < 2 ^ 62 ∧ -(2 ^ 62) ≤ n ∧ n < 2 ^ 62) ∧ Q (rngD m (m - n).toNat)) Δ) Δ) Δ) (hs : isStar a = false := by rfl) (hs2 : isStar b = false := by rfl) (hs3 : isStar d = false := by rfl) :
    WI c tg (.Call (.Name "range" p) [a, b, d] [] pos) Q Δ := fun X H0 Z0 hX σ H Z hS => by
  refine Wi.of (pi_range3 (hX.gl hg) (by rw [hX.mg]; exact hm) (pa_cons pe_we (pa_cons pe_we (pa_cons pe_we pa_nil (star1 hs3)) (star1 hs2)) (star1 hs)) (by rw [star1 hs, star1 hs2, star1 hs3]) (by rw [star1 hs2, star1 hs3]; rfl)) ?_
  refine (h X H0 Z0 hX σ H Z hS).mono fun v H1 ⟨Z1, x, s1, r1, m, ed, q1⟩ => ?_
  subst ed; cases r1
  refine (q1 X H0 Z0 hX σ H1 Z1 (hS.step s1)).mono fun u H2 ⟨Z2, y, s2, r2, n, ed2, q2⟩ => ?_
  subst ed2; cases r2
  exact (q2 X H0 Z0 hX σ H2 Z2 ((hS.step s1).step s2)).mono fun u H3 ⟨Z3, z, s3, r3, ed3, hn, q⟩ => by
    subst ed3; cases r3
    exact ⟨m, n, -1, _, rfl, RgC.neg hn.1 hn.2.1 hn.2.2.1 hn.2.2.2, Z3, _, (s1.trans s2).trans s3, yl_rangeD, q⟩
theorem vc_maxL {ns : List Int} (hn : 0 < ns.length) (q : ∀ m, m ∈ ns → (∀ y ∈ ns, y ≤ m) → Q (.int m)) (hh : c.hot = none := by rfl) : VC c (.builtin "max") [.lst (ns.map D.int)] Q := fun X _ _ hX H Z vs ok r => by
  obtain ⟨v, rfl, r1⟩ := r.one
  obtain ⟨p, ws, rfl, hp, _, rr⟩ := r1.lst_inv ok
  exact ⟨_, cr_max (hX.calm hh), p, ns, rfl, .of (by rw [hp, rr.of_ints]), hn, fun m h1 h2 => opost ok .int (q m h1 h2)⟩
end
end DL
end
section
set_option Elab.async false
set_option linter.all false
set_option maxRecDepth 100000
set_option maxHeartbeats 4000000
/-! DL54: range(n) for n from 2 ** 63 on (left by break). -/
namespace DL
open PySem PySem.Spec PyProof.Rows L2
theorem turn_long {P : Program} {w : World} {K : PySem.W.Frag} {tg : Expr} (it : Addr) (lo c : Int) (n : Nat) : Turn P w K tg (Itc lo c n) [it] it (fun i h => IsLongIter h it (lo + (i : Nat) * c) ((n : Int) - (i : Nat)) c) where
  mem := by simp
  obj := fun i h st b hb => by
    have e : b = it := by simpa using hb
    subst e
    exact ⟨_, st, fun v z => nomatch z⟩
  keep := fun i h h' st k => k it (by simp) _ st
  item := by
    intro X hP hw hK hc i pins s σ H E I hf st hg
    subst hP hw hK
    obtain ⟨f0, f1, f2, f3, f4, f5⟩ := hf it (by simp)
    have W := Walks.longrange (prog := X.prog) (w := X.w) (I.ok.hd hc) it lo c n
    refine W.item i s _ _ hg st fun v h' tk hv st' kk => ?_
    obtain ⟨t, rfl⟩ := hv
    have I1 : Inv X pins σ H { s with heap := h', toks := tk } := I.turned (fun b o hb e => kk b o (by simpa using hb) e) f0 f1 f3 f4 f5
    exact ⟨_, rfl, go_of (s := { s with heap := h', toks := tk }) (n := "longrange_iterator") st' rfl rfl (by decide) ⟨.int (lo + (i : Nat) * c), H, I1, ⟨t, rfl⟩, ⟨rfl, rfl⟩, st', fun b hb => (hf b hb).1⟩⟩
  done := by
    intro X hP hw hK hc i pins s σ H E I hf st hg
    subst hP hw hK
    obtain ⟨f0, f1, f2, f3, f4, f5⟩ := hf it (by simp)
    exact wpAny_pyNext_long_end (I.ok.hd hc) st (by have : n ≤ i := hg; omega) fun h' eb => ⟨rfl, I.turned (t' := s.toks) (fun b o hb e => eb b o hb e) f0 f1 f3 f4 f5⟩
  self := fun A i s Q E st h => wpAny_pyIter_longiter st h
def iRngB (ta : TA) : TI := fun σ H R => ta σ H fun vs H1 => ∃ n : Int, vs = [.int n] ∧ 2 ^ 63 ≤ n ∧ R (Itc 0 1 n.toNat) H1
section
variable {X : Cx} {tg : Expr}
theorem pi_rangeB {a : Expr} {ta : TA} {p pos : Pos} (hg : Gl X "range") (hm : X.mg "range" = none) (ha : PA X [a] ta) (hs : starEach [a] X.env = [(false, eval a X.env)] := by rfl) :
    PI X tg (.Call (.Name "range" p) [a] [] pos) (iRngB ta) := by
  refine ⟨fun pins s σ H R I h => ?_⟩
  refine Call_ (ld_blt I hg hm boot_range (PyProof.Rows.callWith_type1 (thn (ha.run pos pins s σ H _ I h) fun us s1 ⟨vs, H1, I1, r1, q1⟩ => ?_) hs rfl))
  obtain ⟨n, e, hn, q⟩ := q1
  subst e
  cases r1 with
  | cons r rr =>
    cases rr
    obtain ⟨t, rfl⟩ := r
    refine call_range_1 ?_
    have hbig : Builtin.Range.small 0 n 1 = false := by
      unfold Builtin.Range.small
      rw [rangeSize_one, if_pos (by omega)]
      rw [Bool.eq_false_iff]
      intro h
      simp only [Builtin.Range.rangeFitsLong, Bool.and_eq_true, Bool.or_eq_true, decide_eq_true_eq, beq_iff_eq, show (1 : Int) > 0 by decide, if_true] at h
      omega
    refine wpAny_pyIter_longrange (IsRange.new ..) hbig ?_
    have I2 : Inv X pins σ H1 { s1 with heap := s1.heap.push { cls := .type "range", data := .fields #[.int 0 s1.toks, .int n t, .int 1 (s1.toks + 1)] }, toks := s1.toks + 1 + 1 } := I1.kept fun b o e => Heap.get?_push_of_some _ e
    refine pi_one (tk := s1.toks + 1 + 1) I2 _ (turn_long _ 0 1 n.toNat) ?_ q
    have e1 : (0 : Int) + ((0 : Nat) : Int) * 1 = 0 := by simp
    have e2 : (n.toNat : Int) - ((0 : Nat) : Int) = Builtin.Range.rangeSize 0 n 1 := by rw [rangeSize_one, if_pos (by omega)]; omega
    show IsLongIter _ _ ((0 : Int) + ((0 : Nat) : Int) * 1) ((n.toNat : Int) - ((0 : Nat) : Int)) 1
    rw [e1, e2]
    exact Heap.get?_push_size _ rfl
end
section
variable {c : Cf} {Δ : List (Option D)} {a : Expr} {pos : Pos}
theorem yl_rangeB {K : PySem.W.Frag} {H : Hp} {Z : Sh} {n : Nat} : Yl K (Itc 0 1 n) H Z (rng 0 n) := fun H' Z' le ok i => ⟨fun x hx => by
    have hi : i < n := by have := (List.getElem?_eq_some_iff.mp hx).1; rwa [rng_len] at this
    rw [rng_get hi] at hx; cases hx
    exact ⟨hi, fun v H'' ⟨e1, e2⟩ => by subst e1; subst e2; exact ⟨Z', .refl ok, (show (0 : Int) + (i : Int) * 1 = 0 + (i : Int) by omega) ▸ Rp.int⟩⟩, fun hn => by
    have := List.getElem?_eq_none_iff.mp hn; rw [rng_len] at this; exact this⟩
theorem wi_rangeB {tg : Expr} {p : Pos} {Q : List D → Prop} (hg : Glo c "range") (hm : c.mg "range" = none) (h : WE c a (fun x => ∃ n : Int, x = .int n ∧ 2 ^ 63 ≤ n ∧ Q (rng 0 n.toNat)) Δ) (hs : isStar a = false := by rfl) : WI c tg (.Call (.Name "range" p) [a] [] pos) Q Δ := fun X H0 Z0 hX σ H Z hS => by
  refine Wi.of (pi_rangeB (hX.gl hg) (by rw [hX.mg]; exact hm) (pa_cons pe_we pa_nil (star1 hs)) (by rw [star1 hs]; rfl)) ?_
  refine (h X H0 Z0 hX σ H Z hS).mono fun v H1 ⟨Z1, x, s1, r1, n, ed, hn, q1⟩ => ?_
  subst ed; cases r1
  exact ⟨n, rfl, hn, Z1, _, s1, yl_rangeB, q1⟩
end
end DL
end
section
set_option Elab.async false
set_option linter.all false
set_option maxRecDepth 100000
set_option maxHeartbeats 4000000
namespace K15
open PySem PySem.Spec PyProof.Rows L2 DL
def top (i : Nat) : Stmt := PySem.Challenge.pw_partsfound_k15_whole_runs_in_order.main.body.getD i (.Pass ⟨0, 0, 0, 0⟩)
def iL (ns : List Int) : List D := ns.map .int
def sL (xs : List Str) : List D := xs.map .str
abbrev s_is_whole : Stmt := top 15
def spIsWhole : DSp := fun ds Q _ => ∃ i, ds = [.int i] ∧ Q (.bl true)
theorem all_true (n : Nat) : (List.replicate n true).all id = true := by
  induction n with
  | zero => rfl
  | succ n ih => rw [List.replicate_succ, List.all_cons, ih]; rfl
theorem rep_bl (n : Nat) : List.replicate n (D.bl true) = (List.replicate n true).map D.bl := by rw [List.map_replicate]
theorem iL_split {ns : List Int} {pre post : List D} {x : D} (h : iL ns = pre ++ x :: post) : ∃ (p q : List Int) (i : Int), ns = p ++ i :: q ∧ pre = iL p ∧ x = .int i ∧ post = iL q := by
  obtain ⟨p, r, e1, e2, e3⟩ := List.map_eq_append_iff.mp h
  obtain ⟨i, q, rfl, rfl, rfl⟩ := List.map_eq_cons_iff.mp e3
  exact ⟨p, q, i, e1, e2.symm, rfl, rfl⟩
theorem iL_len (ns : List Int) : (iL ns).length = ns.length := List.length_map ..
section
variable {P : Program} {w : World} {K : PySem.W.Frag} {mg : Str → Option Value} {base : Heap}
theorem sc_is_whole : FnScope ["value"] ["value"] (defScope s_is_whole) := ⟨rfl, rfl, rfl, by decide +kernel, rfl, by decide +kernel, by decide +kernel⟩
theorem ok_is_whole {f : Addr} {fd : FuncData} (B : Bl mg) (F : Fun K "is_whole" "is_whole" s_is_whole f fd) : FnOk P w K mg base (L2.CX P w) 1 f fd ["value"] (lift K spIsWhole) := by
  refine def_ok F sc_is_whole (fun ds Q E ⟨i, e, _⟩ => by rw [e]; rfl) fun ds Q E ⟨i, e, q⟩ => ?_
  subst e
  refine wb_cons (ws_ret (wo_of_we (we_and (we_of_wo (wo_callB rfl B.isinstance boot_isinstance ?_)))))
  refine wa_cons (we_var 0 rfl (.inl rfl) rfl rfl (wa_cons (we_ty rfl B.int boot_int (wa_nil ?_))))
  refine vc_isi (T := "int") (k := true) rfl (by decide +kernel) ⟨_, rfl, if_t rfl ?_⟩
  refine we_one (we_not (we_of_wo (wo_callB rfl B.isinstance boot_isinstance ?_)))
  refine wa_cons (we_var 0 rfl (.inl rfl) rfl rfl (wa_cons (we_ty rfl B.bool boot_bool (wa_nil ?_))))
  exact vc_isi (T := "int") (k := false) rfl (by decide +kernel) ⟨_, rfl, q⟩
end
def lettersS : Str := "abcdefghijklmnopqrstuvwxyz"
def signsS : Str := "abcdefghijklmnopqrstuvwxyz0123456789"
structure IsNm (x : Str) : Prop where
  ex : ∃ k r, x.cps.toList = k :: r ∧ k ∈ lettersS.cps.toList ∧ r.length ≤ 11 ∧ ∀ z ∈ k :: r, z ∈ signsS.cps.toList
structure NmsOk (xs : List Str) : Prop where
  nm : ∀ x ∈ xs, IsNm x
  nd : xs.Nodup
  ne : xs ≠ []
  ln : xs.length ≤ 100
theorem IsNm.len {x : Str} (h : IsNm x) : 1 ≤ x.length ∧ x.length ≤ 12 := by
  obtain ⟨k, r, e, _, h2, _⟩ := h.ex
  have e2 : x.length = (k :: r).length := by rw [← e]; show x.cps.size = _; rw [Array.length_toList]
  rw [e2, List.length_cons]; omega
theorem sz {n : Nat} (h : n ≤ 1000000) : n ≤ sizeLine := by rw [sizeLine_eq]; omega
theorem IsNm.ok {x : Str} (h : IsNm x) : PyData.strOk x = true := by
  obtain ⟨k, r, e, _, _, h3⟩ := h.ex
  unfold PyData.strOk
  rw [Array.all_eq_true]
  intro i hi
  have m : x.cps[i] ∈ x.cps.toList := by rw [← Array.getElem_toList]; exact List.getElem_mem _
  rw [e] at m
  have m2 := h3 _ m
  have all : signsS.cps.toList.all (fun z => decide (z < 0x110000)) = true := by decide +kernel
  exact List.all_eq_true.mp all _ m2
abbrev s_is_name : Stmt := top 21
abbrev s_short : Stmt := top 22
def spIsName : DSp := fun ds Q _ => ∃ x, ds = [.str x] ∧ IsNm x ∧ Q (.bl true)
def spShort : DSp := fun ds Q _ => ∃ xs, ds = [.tup (sL xs)] ∧ NmsOk xs ∧ Q (.bl false)
theorem sL_split {ns : List Str} {pre post : List D} {x : D} (h : sL ns = pre ++ x :: post) : ∃ (p q : List Str) (i : Str), ns = p ++ i :: q ∧ pre = sL p ∧ x = .str i ∧ post = sL q := by
  obtain ⟨p, r, e1, e2, e3⟩ := List.map_eq_append_iff.mp h
  obtain ⟨i, q, rfl, rfl, rfl⟩ := List.map_eq_cons_iff.mp e3
  exact ⟨p, q, i, e1, e2.symm, rfl, rfl⟩
theorem sL_len (ns : List Str) : (sL ns).length = ns.length := List.length_map ..
theorem sL_ok {n : Nat} {xs : List Str} (h : ∀ x ∈ xs, IsNm x) : ∀ d ∈ sL xs, OkD n d := fun d hd => by
  obtain ⟨x, hx, rfl⟩ := List.mem_map.mp hd
  exact .str (h x hx).ok
theorem any_false_rep (n : Nat) : (List.replicate n false).any id = false := by
  induction n with
  | zero => rfl
  | succ n ih => rw [List.replicate_succ, List.any_cons, ih]; rfl
theorem rep_blf (n : Nat) : List.replicate n (D.bl false) = (List.replicate n false).map D.bl := by rw [List.map_replicate]
theorem atI_nat {α : Type} {l : List α} {i : Nat} {x : α} (h : l[i]? = some x) : atI l (i : Int) = some x := by
  have hi := (List.getElem?_eq_some_iff.mp h).1
  unfold atI ixN
  rw [if_pos (Int.natCast_nonneg i), if_pos (by omega)]
  show l[(i : Int).toNat]? = _
  rw [Int.toNat_natCast]; exact h
theorem rng_split {n : Nat} {pre post : List D} {x : D} (h : rng 0 n = pre ++ x :: post) : x = .int (0 + (pre.length : Nat)) ∧ pre.length < n := by
  have hl : (pre ++ x :: post).length = n := by rw [← h, rng_len]
  have hlt : pre.length < n := by rw [← hl, List.length_append, List.length_cons]; omega
  have e := rng_get (lo := 0) hlt
  rw [h, List.getElem?_append_right (Nat.le_refl _), Nat.sub_self] at e
  exact ⟨by simpa using e, hlt⟩
theorem cut_to {l : List D} {i : Nat} (h : i ≤ l.length) : cutD l none (some (i : Int)) = l.take i := by
  unfold DL.cutD
  rw [HT.sIx_none, HT.sIx_nat, Nat.min_eq_left h]; rfl
theorem not_in_take {α : Type} {xs : List α} (nd : xs.Nodup) {i : Nat} (h : i < xs.length) : xs[i] ∉ xs.take i := fun m => by
  obtain ⟨j, hj, e⟩ := List.getElem_of_mem m
  have hj' : j < i := by rw [List.length_take] at hj; omega
  rw [List.getElem_take] at e
  have hne := (List.pairwise_iff_getElem.mp nd) j i (by omega) h hj'
  exact hne e
section
variable {P : Program} {w : World} {K : PySem.W.Frag} {mg : Str → Option Value} {base : Heap}
theorem sc_is_name : FnScope ["value", "sign"] ["value"] (defScope s_is_name) := ⟨rfl, rfl, rfl, by decide +kernel, rfl, by decide +kernel, by decide +kernel⟩
theorem ok_is_name {f : Addr} {fd : FuncData} {t1 t2 : Tok} (B : Bl mg) (mL : mg "LETTERS" = some (.str lettersS t1)) (mS : mg "SIGNS" = some (.str signsS t2)) (F : Fun K "is_name" "is_name" s_is_name f fd) : FnOk P w K mg base (L2.CX P w) 1 f fd ["value"] (lift K spIsName) := by
  refine def_ok F sc_is_name (fun ds Q E ⟨i, e, _⟩ => by rw [e]; rfl) fun ds Q E ⟨x, e, nm, q⟩ => ?_
  subst e
  obtain ⟨n1, n2⟩ := nm.len
  obtain ⟨k, r, ex, hk, hr, hall⟩ := nm.ex
  refine wb_cons (ws_if (wt_pw (ww_or (wt_not (wt_val (we_of_wo (wo_callB rfl B.isinstance boot_isinstance ?_)))))))
  refine wa_cons (we_var 0 rfl (.inl rfl) rfl rfl (wa_cons (we_ty rfl B.str boot_str (wa_nil ?_))))
  refine vc_isi (T := "str") (k := true) rfl (by decide +kernel) ⟨_, rfl, if_f rfl ?_⟩
  refine ww_or (wt_not (wt_chain (we_int (we_of_wo (wo_callB rfl B.len boot_len (wa_cons (we_var 0 rfl (.inl rfl) rfl rfl (wa_nil (vc_lenS (sz (by omega)) (vo_le ⟨_, rfl, if_t (decide_eq_true (by omega)) (we_int (vo_le ⟨_, rfl, if_f (by rw [decide_eq_true (by omega)]; rfl) ?_⟩))⟩))))))))))
  refine ww_or1 (wt_cmp (we_ix (we_var 0 rfl (.inl rfl) rfl rfl (we_int (vi_str (k := k) (sz (by omega)) (by rw [ex]; exact atI_nat (i := 0) rfl) ?_)))))
  refine we_glob rfl mL (v := .str lettersS) ⟨_, rfl⟩ (fun _ => .str) (vo_nsign ⟨_, rfl, if_f (by rw [decide_eq_true hk]; rfl) ?_⟩)
  refine wb_nil (wb_cons (ws_ret (wo_callB rfl B.all boot_all (wa_cons (we_lc [("sign", 1)] (by dsimp only [Cf.blk]; decide +kernel) (wi_str (we_var 0 rfl (.inl rfl) rfl rfl ⟨_, rfl, ?_, fun pre acc => acc = List.replicate pre.length (.bl true), rfl, ?_, ?_⟩)))))))
  · unfold DL.signs; rw [List.length_map, ex, List.length_cons]; exact sz (by omega)
  · intro pre d post acc hsp hle hI
    subst hI
    have hm : d ∈ DL.signs x := by rw [hsp]; simp
    obtain ⟨z, hz, rfl⟩ := List.mem_map.mp hm
    rw [ex] at hz
    refine wg_name 1 rfl (.inl rfl) (by decide) (we_cmp (we_var 1 rfl (.inl rfl) rfl rfl (we_glob rfl mS (v := .str signsS) ⟨_, rfl⟩ (fun _ => .str) (vo_sign ?_))))
    rw [decide_eq_true (hall z hz)]
    show _ = _
    rw [List.length_append]; exact (List.replicate_succ' ..).symm
  · intro acc hle hI
    subst hI
    rw [rep_bl]
    refine wa_nil (vc_all ?_)
    rw [all_true]; exact q
theorem sc_short : FnScope ["deeds", "name", "at"] ["deeds"] (defScope s_short) := ⟨rfl, rfl, rfl, by decide +kernel, rfl, by decide +kernel, by decide +kernel⟩
theorem ok_short {f : Addr} {fd : FuncData} (B : Bl mg) (F : Fun K "is_short_of_names" "is_short_of_names" s_short f fd) (d1 : Def P w K mg base 1 "is_name" spIsName) : FnOk P w K mg base (L2.CX P w) 2 f fd ["deeds"] (lift K spShort) := by
  refine def_ok F sc_short (fun ds Q E ⟨i, e, _⟩ => by rw [e]; rfl) fun ds Q E ⟨xs, e, nm, q⟩ => ?_
  subst e
  have hpos : 0 < xs.length := List.length_pos_iff.mpr nm.ne
  refine wb_cons (ws_if (wt_not (wt_val (we_of_wo (wo_callB rfl B.isinstance boot_isinstance ?_)))))
  refine wa_cons (we_var 0 rfl (.inr (.inl rfl)) rfl rfl (wa_cons (we_tup (wa_cons (we_ty rfl B.list boot_list (wa_cons (we_ty rfl B.tuple boot_tuple (wa_nil ⟨by show _ ≤ sizeLine; decide, wa_nil ?_⟩)))))))) 
  refine vc_isiT (T := "tuple") ["list", "tuple"] (k := true) rfl (by decide +kernel) ⟨_, rfl, if_f rfl ?_⟩
  refine wb_nil (wb_cons (ws_for [1] (wi_tup (we_var 0 rfl (.inr (.inl rfl)) rfl rfl ⟨_, rfl, fun pre Δ' => Δ'[0]? = some (some (.tup (sL xs))) ∧ Δ'.length = 3, ⟨rfl, rfl⟩, ?_, ?_⟩))))
  · intro pre d post Δ' hsp hI
    obtain ⟨p, q2, x, rfl, rfl, rfl, rfl⟩ := sL_split hsp
    refine wg_name 1 rfl (.inl rfl) (by decide) ?_
    have hi1 : (Δ'.set 1 (some (.str x)))[1]? = some (some (.str x)) := by rw [List.getElem?_set_self (by omega)]
    refine wb_cons (ws_if (wt_not (wt_val (we_call d1 (Nat.le_of_ble_eq_true rfl) rfl (wa_cons (we_var 1 rfl (.inl rfl) hi1 rfl (wa_nil ⟨x, rfl, nm.nm x (by simp), _, rfl, if_f rfl ?_⟩)))))))
    refine wb_nil (wb_nil ?_)
    exact ⟨by rw [List.getElem?_set_ne (by decide)]; exact hI.1, by rw [List.length_set]; exact hI.2⟩
  · intro Δ' ⟨hi, hl⟩
    show WB _ _ _ _
    refine wb_cons (ws_ret (wo_of_we (we_or (we_cmp (we_of_wo (wo_callB rfl B.len boot_len ?_))))))
    refine wa_cons (we_var 0 rfl (.inr (.inl rfl)) hi rfl (wa_nil (vc_lenT ?_)))
    refine we_int (vo_eqi ⟨_, rfl, if_f (decide_eq_false (by rw [sL_len]; omega)) ?_⟩)
    refine we_one (we_of_wo (wo_callB rfl B.any boot_any (wa_cons (we_lc [("at", 2)] (by dsimp only [Cf.blk]; decide +kernel) (wi_range1 rfl B.range ?_)))))
    refine we_of_wo (wo_callB rfl B.len boot_len (wa_cons (we_var 0 rfl (.inr (.inl rfl)) hi rfl (wa_nil (vc_lenT ⟨_, rfl, ?_, ?_⟩)))))
    · rw [sL_len]; have := nm.ln; omega
    rw [sL_len]
    have hln := nm.ln
    refine ⟨by rw [rng_len]; exact sz (by omega), fun pre acc => acc = List.replicate pre.length (.bl false), rfl, ?_, ?_⟩
    · intro pre d post acc hsp hle hI
      subst hI
      obtain ⟨rfl, hlt⟩ := rng_split hsp
      have hi2 : ((wipeD Δ' [2]).set 2 (some (.int (0 + (pre.length : Nat)))))[2]? = some (some (.int (0 + (pre.length : Nat)))) := by rw [List.getElem?_set_self (by show 2 < (Δ'.set 2 none).length; rw [List.length_set]; omega)]
      have hi0 : ((wipeD Δ' [2]).set 2 (some (.int (0 + (pre.length : Nat)))))[0]? = some (some (.tup (sL xs))) := by rw [List.getElem?_set_ne (by decide)]; show (Δ'.set 2 none)[0]? = _; rw [List.getElem?_set_ne (by decide)]; exact hi
      have hx : atI (sL xs) (0 + (pre.length : Nat)) = some (.str xs[pre.length]) := by
        rw [Int.zero_add]
        refine atI_nat ?_
        unfold sL
        rw [List.getElem?_map, List.getElem?_eq_getElem hlt]; rfl
      refine wg_name 2 rfl (.inl rfl) (by decide) (we_cmp (we_ix (we_var 0 rfl (.inr (.inl rfl)) hi0 rfl (we_var 2 rfl (.inl rfl) hi2 rfl (vi_tup hx ?_)))))
      refine we_slice (we_var 0 rfl (.inr (.inl rfl)) hi0 rfl ?_)
      show WOp _ _ _ _
      refine we_var 2 rfl (.inl rfl) hi2 rfl ⟨_, rfl, vs_tup ?_⟩
      rw [Int.zero_add, cut_to (by rw [sL_len]; omega)]
      have e2 : (sL xs).take pre.length = (xs.take pre.length).map D.str := by unfold sL; rw [List.map_take]
      rw [e2]
      refine vo_inS .tup ?_
      rw [decide_eq_false (not_in_take nm.nd hlt)]
      show _ = _
      rw [List.length_append]; exact (List.replicate_succ' ..).symm
    · intro acc hle hI
      subst hI
      rw [rep_blf]
      refine wa_nil (vc_any ?_)
      rw [any_false_rep]; exact q
end
end K15
end
section
set_option Elab.async false
set_option linter.all false
set_option maxRecDepth 100000
set_option maxHeartbeats 4000000
namespace K15
open PySem PySem.Spec PyProof.Rows L2 DL
section
variable {P : Program} {w : World} {K : PySem.W.Frag} {mg : Str → Option Value} {base : Heap} {C : Addr}
end
theorem getD_get {l : List Int} {i : Nat} (h : i < l.length) : l[i]? = some (l.getD i 0) := by
  rw [List.getD_eq_getElem?_getD, List.getElem?_eq_getElem h]; rfl
theorem iL_get {l : List Int} {i : Nat} {x : Int} (h : l[i]? = some x) : (iL l)[i]? = some (.int x) := by unfold iL; rw [List.getElem?_map, h]; rfl
section
variable {P : Program} {w : World} {K : PySem.W.Frag} {mg : Str → Option Value} {base : Heap} {C N : Addr}
end
section
variable {P : Program} {w : World} {K : PySem.W.Frag} {mg : Str → Option Value} {base : Heap} {C N : Addr}
end
section
variable {P : Program} {w : World} {K : PySem.W.Frag} {mg : Str → Option Value} {base : Heap}
abbrev s_draw : Stmt := top 32
theorem sc_draw : FnScope ["pen", "many", "cell", "digit", "blend"] ["pen", "many"] (defScope s_draw) := ⟨rfl, rfl, rfl, by decide +kernel, rfl, by decide +kernel, by decide +kernel⟩
theorem ok_draw {f : Addr} {fd : FuncData} (B : Bl mg) (F : Fun K "_law_draw" "_law_draw" s_draw f fd) : FnOk P w K mg base (L2.CX P w) 1 f fd ["pen", "many"] (lift K spDraw) := by
  refine draw_ok F sc_draw fun q l ns a d kk ff n ha hd hf h1 hn => ?_
  refine wb_cons (ws_pCount rfl (.inl rfl) rfl (we_bin (we_pCount rfl (.inl rfl) rfl (we_int (vo_add ⟨_, rfl, ?_⟩)))))
  refine wb_cut (fun Δ' => ∃ a d k f c2 c3 c4, Δ' = [some (.oK q penK (penD l ns a d k f)), some (.int n), c2, c3, c4] ∧ 0 ≤ a ∧ 0 ≤ d ∧ 0 ≤ f) ?_ ?_
  · refine ws_if (wt_pw (ww_and (wt_cmp (we_pDigits rfl (.inl rfl) rfl (we_int (vo_eqi ⟨_, rfl, if_b (fun h => ?_) (fun h => ?_)⟩))))))
    · refine ww_and1 (wt_cmp (we_pAt rfl (.inl rfl) rfl (we_of_wo (wo_callB rfl B.len boot_len (wa_cons (we_pCells rfl (.inl rfl) rfl (wa_nil (vc_lenA (vo_lt ⟨_, rfl, if_b (fun h2 => ?_) (fun h2 => ?_)⟩)))))))))
      · have hlt : a < (ns.length : Nat) := by simpa using h2
        obtain ⟨m, rfl⟩ := Int.eq_ofNat_of_zero_le ha
        have hm : m < ns.length := by omega
        refine wb_cons (ws_set 2 rfl (.inl rfl) (wo_ix (we_pCells rfl (.inl rfl) rfl (we_pAt rfl (.inl rfl) rfl (vi_lsA (atI_nat (iL_get (getD_get hm))) ?_)))))
        refine wb_cons (ws_pAt rfl (.inl rfl) rfl (we_bin (we_pAt rfl (.inl rfl) rfl (we_int (vo_add ⟨_, rfl, ?_⟩)))))
        refine wb_cons (ws_if (wt_cmp (we_var 2 rfl (.inl rfl) rfl rfl (we_bin (we_int (we_int (vo_pow (by decide) (vo_ge ⟨_, rfl, if_b (fun h3 => ?_) (fun h3 => ?_)⟩))))))))
        · have h3 : (10 : Int) ^ (18 : Int).toNat ≤ ns.getD m 0 := by simpa using h3
          refine wb_cons (ws_pDigits rfl (.inl rfl) rfl (we_bin (we_var 2 rfl (.inl rfl) rfl rfl (we_bin (we_int (we_int (vo_pow (by decide) (vo_sub ⟨_, rfl, ?_⟩))))))))
          exact wb_nil (wb_nil ⟨_, _, _, _, _, _, _, rfl, by omega, by omega, hf⟩)
        · refine wb_cons (ws_pFold rfl (.inl rfl) rfl (we_bin (we_of_wo (wo_callTy rfl B.int boot_int (wa_cons (we_bin (we_bin (we_pFold rfl (.inl rfl) rfl (we_int (vo_mul (.inr (by decide)) ?_)))))))))) 
          refine we_var 2 rfl (.inl rfl) rfl rfl (vo_add (wa_nil (vc_int (we_int (vo_mod (by decide) ⟨_, rfl, ?_⟩)))))
          exact wb_nil (wb_nil ⟨_, _, _, _, _, _, _, rfl, by omega, hd, Int.emod_nonneg _ (by decide)⟩)
      · exact wb_nil ⟨_, _, _, _, _, _, _, rfl, ha, hd, hf⟩
    · exact wb_nil ⟨_, _, _, _, _, _, _, rfl, ha, hd, hf⟩
  · intro Δ' ⟨a, d, k, f, c2, c3, c4, hI, ha, hd, hf⟩
    subst hI
    refine wb_cons (ws_if (wt_cmp (we_pDigits rfl (.inl rfl) rfl (we_int (vo_gt ⟨_, rfl, if_b (fun h => ?_) (fun h => ?_)⟩)))))
    · refine wb_cons (ws_set 3 rfl (.inl rfl) (wo_bin (we_of_wo (wo_callTy rfl B.int boot_int (wa_cons (we_pDigits rfl (.inl rfl) rfl (wa_nil (vc_int ?_))))))))
      refine we_var 1 rfl (.inl rfl) rfl rfl (vo_mod (by omega) ?_)
      refine wb_cons (ws_pDigits rfl (.inl rfl) rfl (we_bin (we_pDigits rfl (.inl rfl) rfl (we_var 1 rfl (.inl rfl) rfl rfl (vo_fdiv ⟨by omega, hn⟩ ⟨_, rfl, ?_⟩)))))
      refine wb_cons (ws_ret (wo_of_we (we_var 3 rfl (.inl rfl) rfl rfl ?_)))
      exact ⟨_, _, _, _, _, rfl, Int.emod_nonneg _ (by omega), Int.emod_lt_of_pos _ (by omega), rfl, ha, Int.ediv_nonneg hd (by omega), hf⟩
    · refine wb_nil (wb_cons (ws_set 4 rfl (.inl rfl) (wo_bin (we_of_wo (wo_callTy rfl B.int boot_int ?_)))))
      refine wa_cons (we_bin (we_bin (we_bin ?_)))
      refine we_pFold rfl (.inl rfl) rfl (we_int (vo_mul (.inr (by decide)) ?_))
      refine we_bin (we_pCount rfl (.inl rfl) rfl (we_int (vo_mul (.inr (by decide)) (vo_add ?_))))
      refine we_int (vo_add (wa_nil (vc_int (we_int (vo_mod (by decide) ?_)))))
      have b1 := Int.emod_nonneg (f * 48271 + k * 7919 + 13) (show (2147483647 : Int) ≠ 0 by decide)
      have b2 := Int.emod_lt_of_pos (f * 48271 + k * 7919 + 13) (show (0 : Int) < 2147483647 by decide)
      generalize (f * 48271 + k * 7919 + 13) % 2147483647 = b at *
      refine wb_cons (ws_set 4 rfl (.inl rfl) (wo_bin (we_of_wo (wo_callTy rfl B.int boot_int ?_))))
      refine wa_cons (we_bin (we_bin (we_bin ?_)))
      refine we_var 4 rfl (.inl rfl) rfl rfl (we_var 4 rfl (.inl rfl) rfl rfl (vo_mul (.inr ⟨by omega, by omega⟩) ?_))
      refine we_bin (we_int (we_var 4 rfl (.inl rfl) rfl rfl (vo_mul (.inl (by decide)) (vo_add ?_))))
      refine we_pCount rfl (.inl rfl) rfl (vo_add (wa_nil (vc_int (we_int (vo_mod (by decide) ?_)))))
      have b3 := Int.emod_nonneg (b * b + 31 * b + k) (show (2147483629 : Int) ≠ 0 by decide)
      have b4 := Int.emod_lt_of_pos (b * b + 31 * b + k) (show (0 : Int) < 2147483629 by decide)
      generalize (b * b + 31 * b + k) % 2147483629 = g at *
      refine wb_cons (ws_pFold rfl (.inl rfl) rfl (we_bin (we_of_wo (wo_callTy rfl B.int boot_int ?_))))
      refine wa_cons (we_bin (we_bin (we_var 4 rfl (.inl rfl) rfl rfl (we_int (vo_mul (.inr (by decide)) ?_)))))
      refine we_int (vo_add (wa_nil (vc_int (we_int (vo_mod (by decide) ⟨_, rfl, ?_⟩)))))
      refine wb_cons (ws_ret (wo_bin (we_of_wo (wo_callTy rfl B.int boot_int ?_))))
      refine wa_cons (we_bin (we_var 4 rfl (.inl rfl) rfl rfl (we_int (vo_fdiv (by decide) (wa_nil (vc_int ?_))))))
      refine we_var 1 rfl (.inl rfl) rfl rfl (vo_mod (by omega) ?_)
      exact ⟨_, _, _, _, _, rfl, Int.emod_nonneg _ (by omega), Int.emod_lt_of_pos _ (by omega), rfl, ha, hd, Int.emod_nonneg _ (by decide)⟩
end
def spPen : DSp := fun ds Q _ => ∃ ns, ds = [.scr ns] ∧ Q .pen
def spPickS : DSp := fun ds Q _ => ∃ x : Str, ds = [.pen, .str x] ∧ 1 ≤ x.length ∧ x.length ≤ 1000 ∧ ∀ k ∈ x.cps.toList, Q (.str ⟨#[k]⟩)
def spPickL : DSp := fun ds Q _ => ∃ l : List D, ds = [.pen, .lst l] ∧ 1 ≤ l.length ∧ l.length ≤ 1000 ∧ ∀ d ∈ l, Q d
theorem nat_of {r : Int} {n : Nat} (h0 : 0 ≤ r) (h : r < (n : Int)) : ∃ m : Nat, r = (m : Int) ∧ m < n := ⟨r.toNat, (Int.toNat_of_nonneg h0).symm, by omega⟩
section
variable {P : Program} {w : World} {K : PySem.W.Frag} {mg : Str → Option Value} {base : Heap}
abbrev s_pen : Stmt := top 31
abbrev s_pick : Stmt := top 33
theorem sc_pen : FnScope ["script", "fold", "cell"] ["script"] (defScope s_pen) := ⟨rfl, rfl, rfl, by decide +kernel, rfl, by decide +kernel, by decide +kernel⟩
theorem ok_pen {f : Addr} {fd : FuncData} (B : Bl mg) (F : Fun K "_law_pen" "_law_pen" s_pen f fd) : FnOk P w K mg base (L2.CX P w) 1 f fd ["script"] (lift K spPen) := by
  refine def_ok F sc_pen (fun ds Q E ⟨_, e, _⟩ => by rw [e]; rfl) fun ds Q E ⟨ns, e, q⟩ => ?_
  subst e
  refine wb_cons (ws_set 1 rfl (.inl rfl) (wo_of_we (we_int ?_)))
  refine wb_cons (ws_for [2] (wi_scr (we_var 0 rfl (.inl rfl) rfl rfl ⟨_, rfl, ?_⟩)))
  refine ⟨fun pre Δ' => ∃ (r : Int) (c3 : Option D), Δ' = [some (.scr ns), some (.int r), c3] ∧ 0 ≤ r, ⟨0, _, rfl, Int.le_refl _⟩, ?_, ?_⟩
  · intro pre d post Δ' hsp ⟨r, c3, hI, hr⟩
    subst hI
    obtain ⟨p, q2, i, rfl, rfl, rfl, rfl⟩ := iL_split hsp
    refine wg_name 2 rfl (.inl rfl) (by decide) ?_
    refine wb_cons (ws_set 1 rfl (.inl rfl) (wo_bin (we_of_wo (wo_callTy rfl B.int boot_int (wa_cons (we_bin (we_bin ?_)))))))
    refine we_var 1 rfl (.inl rfl) rfl rfl (we_int (vo_mul (.inr (by decide)) (we_var 2 rfl (.inl rfl) rfl rfl (vo_add (wa_nil (vc_int ?_))))))
    exact we_int (vo_mod (by decide) (wb_nil ⟨_, _, rfl, Int.emod_nonneg _ (by decide)⟩))
  · intro Δ' ⟨r, c3, hI, hr⟩
    subst hI
    show WB _ _ _ _
    refine wb_cons (ws_ret (wo_of_we (we_pen (we_of_wo (wo_callTy rfl B.list boot_list (wa_cons (we_var 0 rfl (.inl rfl) rfl rfl (wa_nil (vc_lstScr ⟨ns, rfl, ?_⟩)))))))))
    exact we_int ⟨_, rfl, Int.le_refl _, we_int ⟨_, rfl, Int.le_refl _, we_int ⟨_, rfl, we_var 1 rfl (.inl rfl) rfl rfl ⟨_, rfl, hr, q⟩⟩⟩⟩
theorem sc_pick : FnScope ["pen", "some"] ["pen", "some"] (defScope s_pick) := ⟨rfl, rfl, rfl, by decide +kernel, rfl, by decide +kernel, by decide +kernel⟩
theorem ok_pickS {f : Addr} {fd : FuncData} (B : Bl mg) (F : Fun K "_law_pick" "_law_pick" s_pick f fd) (d0 : Def P w K mg base 1 "_law_draw" spDraw) : FnOk P w K mg base (L2.CX P w) 2 f fd ["pen", "some"] (lift K spPickS) := by
  refine def_ok F sc_pick (fun ds Q E ⟨_, e, _⟩ => by rw [e]; rfl) fun ds Q E ⟨x, e, h1, h2, q⟩ => ?_
  subst e
  refine wb_cons (ws_ret (wo_ix (we_var 1 rfl (.inl rfl) rfl rfl ?_)))
  refine we_call d0 (Nat.le_of_ble_eq_true rfl) rfl (wa_cons (we_var 0 rfl (.inl rfl) rfl rfl (wa_cons (we_of_wo (wo_callB rfl B.len boot_len ?_)))))
  refine wa_cons (we_var 1 rfl (.inl rfl) rfl rfl (wa_nil (vc_lenS (sz (by omega)) (wa_nil ⟨_, rfl, by omega, by omega, fun r r0 r1 => ?_⟩))))
  obtain ⟨m, rfl, hm⟩ := nat_of r0 r1
  have hm' : m < x.cps.toList.length := by rw [Array.length_toList]; exact hm
  exact vi_str (sz (by omega)) (atI_nat (List.getElem?_eq_getElem hm')) (q _ (List.getElem_mem _))
theorem ok_pickL {f : Addr} {fd : FuncData} (B : Bl mg) (F : Fun K "_law_pick" "_law_pick" s_pick f fd) (d0 : Def P w K mg base 1 "_law_draw" spDraw) : FnOk P w K mg base (L2.CX P w) 2 f fd ["pen", "some"] (lift K spPickL) := by
  refine def_ok F sc_pick (fun ds Q E ⟨_, e, _⟩ => by rw [e]; rfl) fun ds Q E ⟨x, e, h1, h2, q⟩ => ?_
  subst e
  refine wb_cons (ws_ret (wo_ix (we_var 1 rfl (.inl rfl) rfl rfl ?_)))
  refine we_call d0 (Nat.le_of_ble_eq_true rfl) rfl (wa_cons (we_var 0 rfl (.inl rfl) rfl rfl (wa_cons (we_of_wo (wo_callB rfl B.len boot_len ?_)))))
  refine wa_cons (we_var 1 rfl (.inl rfl) rfl rfl (wa_nil (vc_lenL (wa_nil ⟨_, rfl, by omega, by omega, fun r r0 r1 => ?_⟩))))
  obtain ⟨m, rfl, hm⟩ := nat_of r0 r1
  exact vi_lst (atI_nat (List.getElem?_eq_getElem hm)) (q _ (List.getElem_mem _))
end
def nmB (l : List Nat) : Bool := match l with
  | [] => false
  | k :: r => lettersS.cps.toList.contains k && decide (r.length ≤ 11) && (k :: r).all fun z => signsS.cps.toList.contains z
theorem nmB_nm {x : Str} (h : nmB x.cps.toList = true) : IsNm x := by
  cases e : x.cps.toList with
  | nil => rw [e] at h; cases h
  | cons k r =>
    rw [e] at h
    unfold nmB at h
    simp only [Bool.and_eq_true, decide_eq_true_eq] at h
    obtain ⟨⟨h1, h2⟩, h3⟩ := h
    exact ⟨k, r, e, by simpa using h1, h2, fun z hz => by simpa using List.all_eq_true.mp h3 z hz⟩
def spName : DSp := fun ds Q _ => ds = [.pen] ∧ ∀ x, IsNm x → Q (.str x)
def spNames : DSp := fun ds Q _ => ∃ m : Nat, ds = [.pen, .int m] ∧ 1 ≤ m ∧ m ≤ 8 ∧ ∀ xs, NmsOk xs → xs.length = m → Q (.tup (sL xs))
theorem longs {m : Nat} (h : m < 6) : ∃ z : Nat, z ≤ 11 ∧ (iL [0, 0, 1, 2, 5, 11])[m]? = some (.int (z : Int)) := by
  match m, h with
  | 0, _ => exact ⟨0, by decide, rfl⟩
  | 1, _ => exact ⟨0, by decide, rfl⟩
  | 2, _ => exact ⟨1, by decide, rfl⟩
  | 3, _ => exact ⟨2, by decide, rfl⟩
  | 4, _ => exact ⟨5, by decide, rfl⟩
  | 5, _ => exact ⟨11, by decide, rfl⟩
def sg (k : Nat) : Str := ⟨#[k]⟩
theorem joinL_nil : ∀ (l : List Nat), TL.joinL [] (l.map fun k => [k]) = l
  | [] => rfl
  | [k] => rfl
  | k :: q :: r => by
    show [k] ++ ([] ++ TL.joinL [] ((q :: r).map fun k => [k])) = _
    rw [joinL_nil (q :: r)]; rfl
theorem join_sg (l : List Nat) : (Txt.join (Str.ofString "") (l.map sg)).cps.toList = l := by
  have h := TL.tl_join (Str.ofString "") (l.map sg)
  rw [TL.join_eq]
  have e : (TL.tl (Str.ofString "")) = [] := rfl
  rw [e, List.map_map] at h
  exact h.trans (joinL_nil l)
theorem sg_sum (l : List Nat) : ((l.map sg).map (·.length)).sum = l.length := by
  induction l with
  | nil => rfl
  | cons k l ih => rw [List.map_cons, List.map_cons, List.sum_cons, ih, List.length_cons]; show 1 + _ = _; omega
theorem app_list (x y : Str) : (x ++ y).cps.toList = x.cps.toList ++ y.cps.toList := TL.tl_append x y
theorem str_len (x : Str) : x.length = x.cps.toList.length := by rw [Array.length_toList]; rfl
theorem letters_signs : ∀ k ∈ lettersS.cps.toList, k ∈ signsS.cps.toList := by
  have h : (lettersS.cps.toList.all fun k => signsS.cps.toList.contains k) = true := by decide +kernel
  intro k hk
  simpa using List.all_eq_true.mp h k hk
theorem IsNm.zero {x : Str} (h : IsNm x) (hl : x.length ≤ 11) : IsNm (x ++ Str.ofString "0") := by
  obtain ⟨k, r, e, h1, h2, h3⟩ := h.ex
  have hl2 := str_len x
  rw [e, List.length_cons] at hl2
  refine ⟨k, r ++ [48], ?_, h1, ?_, ?_⟩
  · rw [app_list, e]; rfl
  · rw [List.length_append, List.length_singleton]; omega
  · intro z hz
    rw [← List.cons_append, List.mem_append, List.mem_singleton] at hz
    rcases hz with hz | rfl
    · exact h3 z hz
    · show (48 : Nat) ∈ signsS.cps.toList
      have : (signsS.cps.toList.contains 48) = true := by decide +kernel
      simpa using this
theorem zq_nm {m : Nat} (h : m < 8) : IsNm (Str.ofString "z" ++ Str.ofString (toString (m : Int)) ++ Str.ofString "q") ∧ (Str.ofString "z" ++ Str.ofString (toString (m : Int)) ++ Str.ofString "q").length = 3 := by
  match m, h with
  | 0, _ => exact ⟨nmB_nm (by decide +kernel), by decide +kernel⟩
  | 1, _ => exact ⟨nmB_nm (by decide +kernel), by decide +kernel⟩
  | 2, _ => exact ⟨nmB_nm (by decide +kernel), by decide +kernel⟩
  | 3, _ => exact ⟨nmB_nm (by decide +kernel), by decide +kernel⟩
  | 4, _ => exact ⟨nmB_nm (by decide +kernel), by decide +kernel⟩
  | 5, _ => exact ⟨nmB_nm (by decide +kernel), by decide +kernel⟩
  | 6, _ => exact ⟨nmB_nm (by decide +kernel), by decide +kernel⟩
  | 7, _ => exact ⟨nmB_nm (by decide +kernel), by decide +kernel⟩
def longer (xs : List Str) (n : Nat) : Nat := (xs.filter fun y => decide (n ≤ y.length)).length
theorem longer_le (xs : List Str) (n : Nat) : longer xs n ≤ xs.length := List.length_filter_le ..
theorem longer_mono (n : Nat) : ∀ (xs : List Str), longer xs (n + 1) ≤ longer xs n
  | [] => Nat.le_refl _
  | z :: zs => by
    have ih := longer_mono n zs
    unfold longer at ih ⊢
    by_cases c1 : n + 1 ≤ z.length
    · rw [List.filter_cons_of_pos (by simpa using c1), List.filter_cons_of_pos (by simp; omega)]
      simp only [List.length_cons]
      omega
    · rw [List.filter_cons_of_neg (by simpa using c1)]
      by_cases c2 : n ≤ z.length
      · rw [List.filter_cons_of_pos (by simpa using c2), List.length_cons]; omega
      · rw [List.filter_cons_of_neg (by simpa using c2)]; exact ih
theorem longer_lt : ∀ {xs : List Str} {x : Str}, x ∈ xs → longer xs (x.length + 1) + 1 ≤ longer xs x.length
  | y :: xs, x, h => by
    have mono := longer_mono x.length xs
    rcases List.mem_cons.mp h with e | h'
    · subst e
      unfold longer at mono ⊢
      rw [List.filter_cons_of_neg (by simp), List.filter_cons_of_pos (by simp), List.length_cons]
      omega
    · have ih := longer_lt h'
      unfold longer at ih ⊢
      by_cases c1 : x.length + 1 ≤ y.length
      · rw [List.filter_cons_of_pos (by simpa using c1), List.filter_cons_of_pos (by simp; omega)]
        simp only [List.length_cons]
        omega
      · rw [List.filter_cons_of_neg (by simpa using c1)]
        by_cases c2 : x.length ≤ y.length
        · rw [List.filter_cons_of_pos (by simpa using c2), List.length_cons]; omega
        · rw [List.filter_cons_of_neg (by simpa using c2)]; exact ih
theorem sq_self {d : D} {l : List D} (h : d = .lst l) : Sq d l := by subst h; exact .lst
section
variable {P : Program} {w : World} {K : PySem.W.Frag} {mg : Str → Option Value} {base : Heap}
abbrev s_name : Stmt := top 36
abbrev s_names : Stmt := top 37
theorem sc_name : FnScope ["pen", "letters", "signs", "long", "lap"] ["pen"] (defScope s_name) := ⟨rfl, rfl, rfl, by decide +kernel, rfl, by decide +kernel, by decide +kernel⟩
theorem ok_name {f : Addr} {fd : FuncData} (B : Bl mg) (F : Fun K "_law_name" "_law_name" s_name f fd) (d0 : Def P w K mg base 1 "_law_draw" spDraw) (d1 : Def P w K mg base 2 "_law_pick" spPickS) : FnOk P w K mg base (L2.CX P w) 3 f fd ["pen"] (lift K spName) := by
  refine def_ok F sc_name (fun ds Q E ⟨e, _⟩ => by rw [e]; rfl) fun ds Q E ⟨e, q⟩ => ?_
  subst e
  refine wb_cons (ws_unpackS [1, 2] (we_tup (wa_cons (we_str (wa_cons (we_str (wa_nil ⟨sz (Nat.le_of_ble_eq_true rfl), ?_⟩)))))) (fun env h => by cases env; cases h; rfl))
  refine wg_tup rfl (wgs_cons (wg_name 1 rfl (.inl rfl) (by decide) (wgs_cons (wg_name 2 rfl (.inr rfl) (by decide) (wgs_nil ?_)))))
  refine wb_cons (ws_set 3 rfl (.inl rfl) (wo_ix (we_lst ?_)))
  refine wa_cons (we_int (wa_cons (we_int (wa_cons (we_int (wa_cons (we_int (wa_cons (we_int (wa_cons (we_int (wa_nil ⟨sz (Nat.le_of_ble_eq_true rfl), ?_⟩))))))))))))
  refine we_call d0 (Nat.le_of_ble_eq_true rfl) rfl (wa_cons (we_var 0 rfl (.inr (.inl rfl)) rfl rfl (wa_cons (we_int (wa_nil ⟨_, rfl, by decide, by decide, fun r r0 r1 => ?_⟩)))))
  obtain ⟨m, rfl, hm⟩ := nat_of (n := 6) r0 r1
  obtain ⟨z, hz, ez⟩ := longs hm
  refine vi_lst (atI_nat ez) ?_
  refine wb_cons (ws_ret (wo_bin (we_call d1 (Nat.le_of_ble_eq_true rfl) rfl ?_)))
  refine wa_cons (we_var 0 rfl (.inr (.inl rfl)) rfl rfl (wa_cons (we_var 1 rfl (.inl rfl) rfl rfl (wa_nil ⟨lettersS, rfl, by decide +kernel, by decide +kernel, fun k hk => ?_⟩))))
  refine we_join (we_str ⟨_, rfl, we_lc [("lap", 4)] (by dsimp only [Cf.blk]; decide +kernel) (wi_range1 rfl B.range (we_var 3 rfl (.inl rfl) rfl rfl ⟨_, rfl, by omega, ?_⟩))⟩)
  rw [Int.toNat_natCast]
  refine ⟨by rw [rng_len]; exact sz (by omega), fun pre acc => ∃ l : List Nat, acc = (l.map sg).map D.str ∧ ∀ x ∈ l, x ∈ signsS.cps.toList, ⟨[], rfl, by simp⟩, ?_, ?_⟩
  · intro pre d post acc hsp hle ⟨l, hI, hl⟩
    obtain ⟨rfl, hlt⟩ := rng_split hsp
    refine wg_name 4 rfl (.inl rfl) (by decide) (we_call d1 (Nat.le_of_ble_eq_true rfl) rfl ?_)
    refine wa_cons (we_var 0 rfl (.inr (.inl rfl)) rfl rfl (wa_cons (we_var 2 rfl (.inr (.inl rfl)) rfl rfl (wa_nil ⟨signsS, rfl, by decide +kernel, by decide +kernel, fun j hj => ⟨l ++ [j], ?_, ?_⟩⟩))))
    · rw [hI, List.map_append, List.map_append]; rfl
    · intro x hx
      rw [List.mem_append, List.mem_singleton] at hx
      rcases hx with hx | rfl
      · exact hl x hx
      · exact hj
  · intro acc hle ⟨l, hI, hl⟩
    rw [rng_len] at hle
    have hll : l.length ≤ z := by rw [hI] at hle; simpa using hle
    refine ⟨l.map sg, sq_self (by rw [hI]), ?_, ?_⟩
    · rw [sg_sum, List.length_map]
      have e0 : (Str.ofString "").length = 0 := by decide +kernel
      rw [e0]; omega
    have hj := join_sg l
    generalize Txt.join (Str.ofString "") (l.map sg) = J at *
    have hJ := str_len J
    rw [hj] at hJ
    have hs : (sg k).cps.toList = [k] := rfl
    refine vo_addS (by rw [hJ]; show 1 + _ ≤ _; exact sz (by omega)) (q _ ⟨k, l, ?_, hk, by omega, ?_⟩)
    · rw [app_list, hj]; rfl
    · intro y hy
      rcases List.mem_cons.mp hy with rfl | hy
      · exact letters_signs _ hk
      · exact hl y hy
end
theorem log_small {m : Nat} (h : m < 8) : ((m : Int).natAbs).log2 < 1920 := by
  match m, h with
  | 0, _ => decide
  | 1, _ => decide
  | 2, _ => decide
  | 3, _ => decide
  | 4, _ => decide
  | 5, _ => decide
  | 6, _ => decide
  | 7, _ => decide
theorem app_len (x y : Str) : (x ++ y).length = x.length + y.length := by rw [str_len, str_len x, str_len y, app_list, List.length_append]
section
variable {P : Program} {w : World} {K : PySem.W.Frag} {mg : Str → Option Value} {base : Heap} {C N : Addr}
theorem sc_names : FnScope ["pen", "many", "found", "lap", "name"] ["pen", "many"] (defScope s_names) := ⟨rfl, rfl, rfl, by decide +kernel, rfl, by decide +kernel, by decide +kernel⟩
theorem ok_names {f : Addr} {fd : FuncData} (B : Bl mg) (F : Fun K "_law_names" "_law_names" s_names f fd) (d0 : Def P w K mg base 3 "_law_name" spName) : FnOk P w K mg base (L2.CX P w) 4 f fd ["pen", "many"] (lift K spNames) := by
  refine def_ok F sc_names (fun ds Q E ⟨_, e, _⟩ => by rw [e]; rfl) fun ds Q E ⟨m, e, m1, m2, q⟩ => ?_
  subst e
  refine wb_cons (ws_set 2 rfl (.inl rfl) (wo_lst (wa_nil ⟨sz (Nat.le_of_ble_eq_true rfl), ?_⟩)))
  refine wb_cons (ws_for [3] (wi_range1 rfl B.range (we_var 1 rfl (.inl rfl) rfl rfl ⟨_, rfl, by omega, ?_⟩)))
  rw [Int.toNat_natCast]
  refine ⟨fun pre Δ' => ∃ (xs : List Str) (c3 c4 : Option D), Δ' = [some .pen, some (.int m), some (.ol (sL xs)), c3, c4] ∧ xs.length = pre.length ∧ xs.Nodup ∧ ∀ x ∈ xs, IsNm x, ⟨[], _, _, rfl, rfl, List.nodup_nil, by simp⟩, ?_, ?_⟩
  · intro pre d post Δ' hsp ⟨xs, c3, c4, hI, hl, nd, nm⟩
    subst hI
    obtain ⟨rfl, hlt⟩ := rng_split hsp
    rw [Int.zero_add]
    have hlen : (pre ++ [D.int (pre.length : Int)]).length = pre.length + 1 := by rw [List.length_append]; rfl
    dsimp only
    rw [hlen]
    generalize pre.length = i at *
    have hi8 : i < 8 := by omega
    refine wg_name 3 rfl (.inl rfl) (by decide) ?_
    refine wb_cons (ws_set 4 rfl (.inl rfl) (wo_call d0 (Nat.le_of_ble_eq_true rfl) rfl (wa_cons (we_var 0 rfl (.inl rfl) rfl rfl (wa_nil ⟨rfl, fun x hx => ?_⟩)))))
    refine wb_cut (fun Δ' => ∃ y, Δ' = [some .pen, some (.int m), some (.ol (sL xs)), some (.int i), some (.str y)] ∧ IsNm y ∧ (y ∉ xs ∨ y.length + longer xs y.length ≤ 3 + xs.length)) ?_ ?_
    · refine ws_if (wt_borrow 2 rfl rfl (wt_cmp (we_var 4 rfl (.inl rfl) rfl rfl (we_var 2 rfl (.inl rfl) rfl rfl (vo_inS (zs := xs) .lst ⟨_, rfl, if_b (fun h => ?_) (fun h => ?_)⟩)))))
      · obtain ⟨z1, z2⟩ := zq_nm hi8
        have z3 := z2
        rw [app_len, app_len] at z3
        refine wb_cons (ws_set 4 rfl (.inl rfl) (wo_bin (we_bin (we_str (we_of_wo (wo_callTy rfl B.str boot_str (wa_cons (we_var 3 rfl (.inl rfl) rfl rfl (wa_nil (vc_str (log_small hi8) ?_))))))))))
        refine vo_addS (sz (by omega)) (we_str (vo_addS (sz (by rw [app_len]; omega)) (wb_nil ⟨_, rfl, z1, .inr ?_⟩)))
        have := longer_le xs (Str.ofString "z" ++ Str.ofString (toString (i : Int)) ++ Str.ofString "q").length
        omega
      · have h' : x ∉ xs := by simpa using h
        exact wb_nil ⟨_, rfl, hx, .inl h'⟩
    · intro Δ' ⟨y, hI, hy, hor⟩
      subst hI
      refine wb_cons (ws_while (fun k Δ' => ∃ y, Δ' = [some .pen, some (.int m), some (.ol (sL xs)), some (.int i), some (.str y)] ∧ IsNm y ∧ (y ∉ xs ∨ y.length + longer xs y.length ≤ 3 + xs.length) ∧ k = longer xs y.length) _ ⟨y, rfl, hy, hor, rfl⟩ fun k Δ' ⟨y, hI, hy, hor, hk⟩ => ?_)
      subst hI
      have hyl := hy.len
      refine wt_borrow 2 rfl rfl (wt_cmp (we_var 4 rfl (.inl rfl) rfl rfl (we_var 2 rfl (.inl rfl) rfl rfl (vo_inS (zs := xs) .lst ⟨_, rfl, if_b (fun h => ?_) (fun h => ?_)⟩))))
      · have h' : y ∈ xs := by simpa using h
        have hb : y.length + longer xs y.length ≤ 3 + xs.length := by
          rcases hor with z | z
          · exact absurd h' z
          · exact z
        have h0 : (Str.ofString "0").length = 1 := by decide +kernel
        have hlo := longer_lt h'
        refine wb_cons (ws_set 4 rfl (.inl rfl) (wo_bin (we_var 4 rfl (.inl rfl) rfl rfl (we_str (vo_addS (sz (by omega)) ?_)))))
        have e1 : (y ++ Str.ofString "0").length = y.length + 1 := by rw [app_len, h0]
        exact wb_nil ⟨_, by rw [hk]; exact hlo, _, rfl, hy.zero (by omega), .inr (by rw [e1]; omega), by rw [e1]⟩
      · have h' : y ∉ xs := by simpa using h
        show WB _ _ _ _
        refine wb_cons (ws_app 2 rfl (.inl rfl) rfl (we_var 4 rfl (.inl rfl) rfl rfl ⟨by rw [sL_len, sizeLine_eq]; omega, wb_nil ⟨xs ++ [y], some (.int i), some (.str y), ?_, ?_, ?_, ?_⟩⟩))
        · unfold sL; rw [List.map_append]; rfl
        · rw [List.length_append, hl]; rfl
        · rw [List.nodup_append]
          refine ⟨nd, by simp, fun a ha b hb e => ?_⟩
          rw [List.mem_singleton] at hb
          exact h' (by rw [← hb, ← e]; exact ha)
        · intro z hz
          rw [List.mem_append, List.mem_singleton] at hz
          rcases hz with hz | rfl
          · exact nm z hz
          · exact hy
  · intro Δ' ⟨xs, c3, c4, hI, hl, nd, nm⟩
    rw [rng_len] at hl
    subst hI
    show WB _ _ _ _
    refine ws_freeze 2 rfl rfl ?_
    refine wb_cons (ws_ret (wo_callTy rfl B.tuple boot_tuple (wa_cons (we_var 2 rfl (.inl rfl) rfl rfl (wa_nil (vc_tupL ?_))))))
    exact q xs ⟨nm, nd, fun z => by rw [z] at hl; simp at hl; omega, by omega⟩ hl
end
/-! SG: the law's helpers. -/
def isOk : Nat → D → Prop
  | _, .int _ => True
  | _, .str _ => True
  | _, .bl _ => True
  | _, .non => True
  | n + 1, .tup l => l.length ≤ 1000000 ∧ ∀ e ∈ l, isOk n e
  | _, _ => False
def spIs (n : Nat) : DSp := fun ds Q _ => ∃ d, ds = [d, d] ∧ isOk n d ∧ Q (.bl true)
theorem isOk_int {n : Nat} {i : Int} : isOk n (.int i) := by cases n <;> exact trivial
theorem isOk_str {n : Nat} {i : Str} : isOk n (.str i) := by cases n <;> exact trivial
theorem isOk_bl {n : Nat} {i : Bool} : isOk n (.bl i) := by cases n <;> exact trivial
theorem isOk_non {n : Nat} : isOk n .non := by cases n <;> exact trivial
theorem isOk_iL {n : Nat} {l : List Int} (h : l.length ≤ 1000) : isOk (n + 1) (.tup (iL l)) :=
  ⟨by rw [iL_len]; omega, fun e he => by obtain ⟨x, _, rfl⟩ := List.mem_map.mp he; exact isOk_int⟩
section
variable {P : Program} {w : World} {K : PySem.W.Frag} {mg : Str → Option Value} {base : Heap}
abbrev s_is : Stmt := top 35
theorem sc_is : FnScope ["told", "due", "at"] ["told", "due"] (defScope s_is) := ⟨rfl, rfl, rfl, by decide +kernel, rfl, by decide +kernel, by decide +kernel⟩
theorem ok_is {f : Addr} {fd : FuncData} (n : Nat) (B : Bl mg) (F : Fun K "_law_is" "_law_is" s_is f fd) (rec_ : ∀ m, n = m + 1 → Def P w K mg base (m + 1) "_law_is" (spIs m)) : FnOk P w K mg base (L2.CX P w) (n + 1) f fd ["told", "due"] (lift K (spIs n)) := by
  refine def_ok F sc_is (fun ds Q E ⟨_, e, _⟩ => by rw [e]; rfl) fun ds Q E ⟨d, e, hd, q⟩ => ?_
  subst e
  cases d with
  | int i =>
    refine wb_cons (ws_if (wt_val (we_of_wo (wo_callB rfl B.isinstance boot_isinstance ?_))))
    refine wa_cons (we_var 1 rfl (.inr (.inl rfl)) rfl rfl (wa_cons (we_ty rfl B.tuple boot_tuple (wa_nil (vc_isi (T := "int") (k := false) rfl (by decide +kernel) ⟨_, rfl, if_f rfl ?_⟩)))))
    refine wb_nil (wb_cons (ws_if (wt_cmp (we_var 1 rfl (.inr (.inl rfl)) rfl rfl (we_non (vo_isN ⟨_, rfl, if_f rfl ?_⟩))))))
    refine wb_nil (wb_cons (ws_if (wt_cmp (we_var 1 rfl (.inr (.inl rfl)) rfl rfl (we_bl (vo_isB ⟨_, rfl, if_f rfl ?_⟩))))))
    refine wb_nil (wb_cons (ws_if (wt_cmp (we_var 1 rfl (.inr (.inl rfl)) rfl rfl (we_bl (vo_isB ⟨_, rfl, if_f rfl ?_⟩))))))
    refine wb_nil (wb_cons (ws_if (wt_val (we_of_wo (wo_callB rfl B.isinstance boot_isinstance ?_)))))
    refine wa_cons (we_var 1 rfl (.inr (.inl rfl)) rfl rfl (wa_cons (we_ty rfl B.str boot_str (wa_nil (vc_isi (T := "int") (k := false) rfl (by decide +kernel) ⟨_, rfl, if_f rfl ?_⟩)))))
    refine wb_nil (wb_cons (ws_ret (wo_of_we (we_and (we_of_wo (wo_callB rfl B.isinstance boot_isinstance ?_))))))
    refine wa_cons (we_var 0 rfl (.inr (.inl rfl)) rfl rfl (wa_cons (we_ty rfl B.int boot_int (wa_nil (vc_isi (T := "int") (k := true) rfl (by decide +kernel) ⟨_, rfl, if_t rfl ?_⟩)))))
    refine we_and (we_not (we_of_wo (wo_callB rfl B.isinstance boot_isinstance ?_)))
    refine wa_cons (we_var 0 rfl (.inr (.inl rfl)) rfl rfl (wa_cons (we_ty rfl B.bool boot_bool (wa_nil (vc_isi (T := "int") (k := false) rfl (by decide +kernel) ⟨_, rfl, _, rfl, if_t rfl ?_⟩)))))
    refine we_one (we_cmp (we_var 0 rfl (.inr (.inl rfl)) rfl rfl (we_var 1 rfl (.inr (.inl rfl)) rfl rfl (vo_eqi ?_))))
    rw [decide_eq_true rfl]; exact q
  | str x =>
    refine wb_cons (ws_if (wt_val (we_of_wo (wo_callB rfl B.isinstance boot_isinstance ?_))))
    refine wa_cons (we_var 1 rfl (.inr (.inl rfl)) rfl rfl (wa_cons (we_ty rfl B.tuple boot_tuple (wa_nil (vc_isi (T := "str") (k := false) rfl (by decide +kernel) ⟨_, rfl, if_f rfl ?_⟩)))))
    refine wb_nil (wb_cons (ws_if (wt_cmp (we_var 1 rfl (.inr (.inl rfl)) rfl rfl (we_non (vo_isN ⟨_, rfl, if_f rfl ?_⟩))))))
    refine wb_nil (wb_cons (ws_if (wt_cmp (we_var 1 rfl (.inr (.inl rfl)) rfl rfl (we_bl (vo_isB ⟨_, rfl, if_f rfl ?_⟩))))))
    refine wb_nil (wb_cons (ws_if (wt_cmp (we_var 1 rfl (.inr (.inl rfl)) rfl rfl (we_bl (vo_isB ⟨_, rfl, if_f rfl ?_⟩))))))
    refine wb_nil (wb_cons (ws_if (wt_val (we_of_wo (wo_callB rfl B.isinstance boot_isinstance ?_)))))
    refine wa_cons (we_var 1 rfl (.inr (.inl rfl)) rfl rfl (wa_cons (we_ty rfl B.str boot_str (wa_nil (vc_isi (T := "str") (k := true) rfl (by decide +kernel) ⟨_, rfl, if_t rfl ?_⟩)))))
    refine wb_cons (ws_ret (wo_of_we (we_and (we_of_wo (wo_callB rfl B.isinstance boot_isinstance ?_)))))
    refine wa_cons (we_var 0 rfl (.inr (.inl rfl)) rfl rfl (wa_cons (we_ty rfl B.str boot_str (wa_nil (vc_isi (T := "str") (k := true) rfl (by decide +kernel) ⟨_, rfl, if_t rfl ?_⟩)))))
    refine we_one (we_cmp (we_var 0 rfl (.inr (.inl rfl)) rfl rfl (we_var 1 rfl (.inr (.inl rfl)) rfl rfl (vo_eqS ?_))))
    rw [decide_eq_true rfl]; exact q
  | tup l =>
    cases n with
    | zero => exact hd.elim
    | succ n =>
      obtain ⟨hl, hall⟩ := hd
      have d0 := rec_ n rfl
      refine wb_cons (ws_if (wt_val (we_of_wo (wo_callB rfl B.isinstance boot_isinstance ?_))))
      refine wa_cons (we_var 1 rfl (.inr (.inl rfl)) rfl rfl (wa_cons (we_ty rfl B.tuple boot_tuple (wa_nil (vc_isi (T := "tuple") (k := true) rfl (by decide +kernel) ⟨_, rfl, if_t rfl ?_⟩)))))
      refine wb_cons (ws_if (wt_pw (ww_or (wt_not (wt_val (we_of_wo (wo_callB rfl B.isinstance boot_isinstance ?_)))))))
      refine wa_cons (we_var 0 rfl (.inr (.inl rfl)) rfl rfl (wa_cons (we_ty rfl B.tuple boot_tuple (wa_nil (vc_isi (T := "tuple") (k := true) rfl (by decide +kernel) ⟨_, rfl, if_f rfl ?_⟩)))))
      refine ww_or1 (wt_cmp (we_of_wo (wo_callB rfl B.len boot_len (wa_cons (we_var 0 rfl (.inr (.inl rfl)) rfl rfl (wa_nil (vc_lenT ?_)))))))
      refine we_of_wo (wo_callB rfl B.len boot_len (wa_cons (we_var 1 rfl (.inr (.inl rfl)) rfl rfl (wa_nil (vc_lenT (vo_nei ⟨_, rfl, if_f (by rw [decide_eq_true rfl]; rfl) ?_⟩))))))
      refine wb_nil (wb_cons (ws_ret (wo_of_we (we_cmp (we_lc [("at", 2)] (by dsimp only [Cf.blk]; decide +kernel) (wi_range1 rfl B.range ?_))))))
      refine we_of_wo (wo_callB rfl B.len boot_len (wa_cons (we_var 1 rfl (.inr (.inl rfl)) rfl rfl (wa_nil (vc_lenT ⟨_, rfl, ?_, ?_⟩)))))
      · omega
      rw [Int.toNat_natCast]
      refine ⟨by rw [rng_len]; exact sz (by omega), fun pre acc => acc = [], rfl, ?_, ?_⟩
      · intro pre d post acc hsp hle hI
        obtain ⟨rfl, hlt⟩ := rng_split hsp
        rw [Int.zero_add]
        refine wg_name 2 rfl (.inl rfl) (by decide) ?_
        have ha : atI l (pre.length : Int) = some (l[pre.length]'hlt) := atI_nat (List.getElem?_eq_getElem hlt)
        refine wt_not (wt_val (we_call d0 (Nat.le_refl _) rfl (wa_cons (we_ix (we_var 0 rfl (.inr (.inl rfl)) rfl rfl (we_var 2 rfl (.inl rfl) rfl rfl (vi_tup ha ?_)))))))
        have hnf : ∀ d : D, isOk n d → d.frz = d := fun d h => by cases d <;> first | rfl | (cases n <;> exact h.elim)
        rw [hnf _ (hall _ (List.getElem_mem _))]
        refine wa_cons (we_ix (we_var 1 rfl (.inr (.inl rfl)) rfl rfl (we_var 2 rfl (.inl rfl) rfl rfl (vi_tup ha ?_))))
        rw [hnf _ (hall _ (List.getElem_mem _))]
        exact wa_nil ⟨_, rfl, hall _ (List.getElem_mem _), _, rfl, if_f rfl hI⟩
      · intro acc hle hI
        subst hI
        refine we_lst (wa_nil ⟨sz (Nat.le_of_ble_eq_true rfl), vo_eqN 1 (OkD.lst (by simp)) (OkD.lst (by simp)) (by decide) fun k hk => ?_⟩)
        have e : k = true := hk.mpr rfl
        subst e; exact q
  | bl b =>
    refine wb_cons (ws_if (wt_val (we_of_wo (wo_callB rfl B.isinstance boot_isinstance ?_))))
    refine wa_cons (we_var 1 rfl (.inr (.inl rfl)) rfl rfl (wa_cons (we_ty rfl B.tuple boot_tuple (wa_nil (vc_isi (T := "bool") (k := false) rfl (by decide +kernel) ⟨_, rfl, if_f rfl ?_⟩)))))
    refine wb_nil (wb_cons (ws_if (wt_cmp (we_var 1 rfl (.inr (.inl rfl)) rfl rfl (we_non (vo_isN ⟨_, rfl, if_f rfl ?_⟩))))))
    cases b with
    | true =>
      refine wb_nil (wb_cons (ws_if (wt_cmp (we_var 1 rfl (.inr (.inl rfl)) rfl rfl (we_bl (vo_isB ⟨_, rfl, if_t rfl ?_⟩))))))
      exact wb_cons (ws_ret (wo_of_we (we_cmp (we_var 0 rfl (.inr (.inl rfl)) rfl rfl (we_bl (vo_isB q))))))
    | false =>
      refine wb_nil (wb_cons (ws_if (wt_cmp (we_var 1 rfl (.inr (.inl rfl)) rfl rfl (we_bl (vo_isB ⟨_, rfl, if_f rfl ?_⟩))))))
      refine wb_nil (wb_cons (ws_if (wt_cmp (we_var 1 rfl (.inr (.inl rfl)) rfl rfl (we_bl (vo_isB ⟨_, rfl, if_t rfl ?_⟩))))))
      exact wb_cons (ws_ret (wo_of_we (we_cmp (we_var 0 rfl (.inr (.inl rfl)) rfl rfl (we_bl (vo_isB q))))))
  | non =>
    refine wb_cons (ws_if (wt_val (we_of_wo (wo_callB rfl B.isinstance boot_isinstance ?_))))
    refine wa_cons (we_var 1 rfl (.inr (.inl rfl)) rfl rfl (wa_cons (we_ty rfl B.tuple boot_tuple (wa_nil (vc_isi (T := "NoneType") (k := false) rfl (by decide +kernel) ⟨_, rfl, if_f rfl ?_⟩)))))
    refine wb_nil (wb_cons (ws_if (wt_cmp (we_var 1 rfl (.inr (.inl rfl)) rfl rfl (we_non (vo_isN ⟨_, rfl, if_t rfl ?_⟩))))))
    exact wb_cons (ws_ret (wo_of_we (we_cmp (we_var 0 rfl (.inr (.inl rfl)) rfl rfl (we_non (vo_isN q))))))
  | _ => cases n <;> exact hd.elim
end
section
variable {P : Program} {w : World} {K : PySem.W.Frag} {mg : Str → Option Value} {base : Heap} {C F_ B_ S_ BR : Addr}
end
end K15
end
section
set_option Elab.async false
set_option linter.all false
set_option maxRecDepth 100000
set_option maxHeartbeats 4000000
namespace K15
open PySem PySem.Spec PyProof.Rows L2 DL
def iN (r : List Nat) : List D := r.map fun (n : Nat) => D.int (n : Int)
theorem iN_len (r : List Nat) : (iN r).length = r.length := List.length_map ..
def idxB (m : Int) : D → Bool
  | .int i => decide (0 ≤ i ∧ i < m)
  | _ => false
theorem idx_nat {m : Nat} {l : List D} (h : ∀ d ∈ l, idxB m d = true) : ∃ r : List Nat, l = iN r ∧ ∀ x ∈ r, x < m := by
  induction l with
  | nil => exact ⟨[], rfl, by simp⟩
  | cons d l ih =>
    obtain ⟨r, rfl, hr⟩ := ih fun d hd => h d (List.mem_cons_of_mem _ hd)
    have hd := h d List.mem_cons_self
    cases d with
    | int i =>
      have hd : decide (0 ≤ i ∧ i < (m : Int)) = true := hd
      obtain ⟨h0, h1⟩ := of_decide_eq_true hd
      obtain ⟨k, rfl⟩ := Int.eq_ofNat_of_zero_le h0
      exact ⟨k :: r, rfl, fun x hx => by
        rcases List.mem_cons.mp hx with rfl | hx
        · omega
        · exact hr x hx⟩
    | _ => cases hd
def itB : D → Option Bool
  | .int _ => some true
  | .bl _ => some false | .non => some false | .str _ => some false | .tup _ => some false
  | _ => none
def spWh : DSp := fun ds Q _ => ∃ d k, ds = [d] ∧ itB d = some k ∧ Q (.bl k)
def spIndex : DSp := fun ds Q _ => ∃ d k m, ds = [d, .int m] ∧ itB d = some k ∧ Q (.bl (idxB m d))
theorem map_at {α : Type} {g : α → D} {ns : List α} {pre post : List D} {x : D} (h : ns.map g = pre ++ x :: post) : ∃ a, ns[pre.length]? = some a ∧ x = g a := by
  have e : (ns.map g)[pre.length]? = some x := by rw [h, List.getElem?_append_right (Nat.le_refl _), Nat.sub_self]; rfl
  rw [List.getElem?_map] at e
  cases q : ns[pre.length]? with
  | none => rw [q] at e; cases e
  | some z => rw [q] at e; cases e; exact ⟨z, rfl, rfl⟩
theorem take_at {α : Type} {l : List α} {i : Nat} {x : α} (h : l[i]? = some x) : l.take (i + 1) = l.take i ++ [x] := by
  rw [List.take_add_one, h]; rfl
theorem snoc_len {α : Type} (pre : List α) (x : α) : (pre ++ [x]).length = pre.length + 1 := by rw [List.length_append]; rfl
section
variable {P : Program} {w : World} {K : PySem.W.Frag} {mg : Str → Option Value} {base : Heap} {C N ND : Addr}
abbrev s_index : Stmt := top 17
theorem sc_index : FnScope ["value", "many"] ["value", "many"] (defScope s_index) := ⟨rfl, rfl, rfl, by decide +kernel, rfl, by decide +kernel, by decide +kernel⟩
theorem ok_index {f : Addr} {fd : FuncData} (F : Fun K "is_index" "is_index" s_index f fd) (d1 : Def P w K mg base 1 "is_whole" spWh) : FnOk P w K mg base (L2.CX P w) 2 f fd ["value", "many"] (lift K spIndex) := by
  refine def_ok F sc_index (fun ds Q E ⟨d, k, m, e, _⟩ => by rw [e]; rfl) fun ds Q E ⟨d, k, m, e, hk, q⟩ => ?_
  subst e
  have no : d.own = false := by cases d <;> first | rfl | cases hk
  refine wb_cons (ws_ret (wo_of_we (we_and (we_call d1 (Nat.le_of_ble_eq_true rfl) rfl (wa_cons (we_var 0 rfl (.inl rfl) rfl no (wa_nil ⟨d, k, rfl, hk, ?_⟩)))))))
  refine ⟨_, rfl, if_b (fun h => ?_) (fun h => ?_)⟩
  · subst h
    have hd : ∃ i, d = .int i := by cases d <;> first | exact ⟨_, rfl⟩ | cases hk
    obtain ⟨i, rfl⟩ := hd
    have q : Q (.bl (decide (0 ≤ i ∧ i < m))) := q
    refine we_one (we_chain (we_int (we_var 0 rfl (.inl rfl) rfl rfl (vo_le ⟨_, rfl, if_b (fun h => ?_) (fun h => ?_)⟩))))
    · have h := of_decide_eq_true h
      refine we_var 1 rfl (.inl rfl) rfl rfl (vo_lt ?_)
      rw [show decide (0 ≤ i ∧ i < m) = decide (i < m) from by simp [h]] at q
      exact q
    · have h := of_decide_eq_false h
      rw [decide_eq_false fun z => h z.1] at q
      exact q
  · subst h
    have e : idxB m d = false := by cases d <;> first | rfl | cases hk
    rw [e] at q; exact q
end
/-! NP: the plain law of k39: needs, by walking and by halving. -/
theorem iN_split {r : List Nat} {pre post : List D} {x : D} (h : iN r = pre ++ x :: post) : ∃ d : Nat, r[pre.length]? = some d ∧ x = .int (d : Int) := map_at h
section
variable {P : Program} {w : World} {K : PySem.W.Frag} {mg : Str → Option Value} {base : Heap} {C N ND : Addr}
end
section
variable {P : Program} {w : World} {K : PySem.W.Frag} {mg : Str → Option Value} {base : Heap} {BN : Addr}
theorem ok_wh {f : Addr} {fd : FuncData} (B : Bl mg) (F : Fun K "is_whole" "is_whole" s_is_whole f fd) : FnOk P w K mg base (L2.CX P w) 1 f fd ["value"] (lift K spWh) := by
  refine def_ok F sc_is_whole (fun ds Q E ⟨d, k, e, _⟩ => by rw [e]; rfl) fun ds Q E ⟨d, k, e, hk, q⟩ => ?_
  subst e
  have no : d.own = false := by cases d <;> first | rfl | cases hk
  refine wb_cons (ws_ret (wo_of_we (we_and (we_of_wo (wo_callB rfl B.isinstance boot_isinstance ?_)))))
  refine wa_cons (we_var 0 rfl (.inl rfl) rfl no (wa_cons (we_ty rfl B.int boot_int (wa_nil ?_))))
  cases d with
  | int i =>
    cases hk
    refine vc_isi (T := "int") (k := true) rfl (by decide +kernel) ⟨_, rfl, if_t rfl ?_⟩
    refine we_one (we_not (we_of_wo (wo_callB rfl B.isinstance boot_isinstance ?_)))
    refine wa_cons (we_var 0 rfl (.inl rfl) rfl rfl (wa_cons (we_ty rfl B.bool boot_bool (wa_nil ?_))))
    exact vc_isi (T := "int") (k := false) rfl (by decide +kernel) ⟨_, rfl, q⟩
  | bl b =>
    cases hk
    refine vc_isi (T := "bool") (k := true) rfl (by decide +kernel) ⟨_, rfl, if_t rfl ?_⟩
    refine we_one (we_not (we_of_wo (wo_callB rfl B.isinstance boot_isinstance ?_)))
    refine wa_cons (we_var 0 rfl (.inl rfl) rfl rfl (wa_cons (we_ty rfl B.bool boot_bool (wa_nil ?_))))
    exact vc_isi (T := "bool") (k := true) rfl (by decide +kernel) ⟨_, rfl, q⟩
  | non =>
    cases hk
    exact vc_isi (T := "NoneType") (k := false) rfl (by decide +kernel) ⟨_, rfl, if_f rfl q⟩
  | str x =>
    cases hk
    exact vc_isi (T := "str") (k := false) rfl (by decide +kernel) ⟨_, rfl, if_f rfl q⟩
  | tup l =>
    cases hk
    exact vc_isi (T := "tuple") (k := false) rfl (by decide +kernel) ⟨_, rfl, if_f rfl q⟩
  | _ => cases hk
variable {c : Cf} {Q : D → Prop} in
end
section
variable {P : Program} {w : World} {K : PySem.W.Frag} {mg : Str → Option Value} {base : Heap} {BN : Addr}
end
/-! YV: the law's own: shuffled, start, walked from nothing, rows of nets, drawn rows. -/
theorem seqIndex_nat {n k : Nat} (h : k < n) : seqIndex? (k : Int) n = some k := by
  have : ixN n (k : Int) = some k := by
    unfold ixN
    rw [if_pos (Int.natCast_nonneg k), if_pos (by omega), Int.toNat_natCast]
  exact (ixN_seq this).1
theorem erase_perm {α : Type} : ∀ {l : List α} {k : Nat} (h : k < l.length), (l[k] :: l.eraseIdx k).Perm l
  | a :: l, 0, _ => .refl _
  | a :: l, k + 1, h => by
    have hk : k < l.length := by simpa using h
    have ih := erase_perm (l := l) (k := k) hk
    show (l[k]'hk :: a :: l.eraseIdx k).Perm (a :: l)
    exact (List.Perm.swap a (l[k]'hk) _).trans (ih.cons a)
def spShuf : DSp := fun ds Q _ => ∃ d, ∃ l : List D, ds = [.pen, d] ∧ IsSeq d l ∧ l.length ≤ 1000 ∧ ∀ m : List D, m.Perm l → Q (.ol m)
section
variable {P : Program} {w : World} {K : PySem.W.Frag} {mg : Str → Option Value} {base : Heap} {C N BR ND NX : Addr}
abbrev s_shuf : Stmt := top 34
theorem sc_shuf : FnScope ["pen", "some", "left", "found", "lap"] ["pen", "some"] (defScope s_shuf) := ⟨rfl, rfl, rfl, by decide +kernel, rfl, by decide +kernel, by decide +kernel⟩
theorem ok_shuf {f : Addr} {fd : FuncData} (B : Bl mg) (F : Fun K "_law_shuffled" "_law_shuffled" s_shuf f fd) (d0 : Def P w K mg base 1 "_law_draw" spDraw) : FnOk P w K mg base (L2.CX P w) 2 f fd ["pen", "some"] (lift K spShuf) := by
  refine def_ok F sc_shuf (fun ds Q E ⟨_, _, e, _⟩ => by rw [e]; rfl) fun ds Q E ⟨d, l, e, hd, hl, q⟩ => ?_
  subst e
  have no := hd.own
  refine wb_cons (ws_parO 2 3 rfl rfl (by decide) rfl rfl (wo_callTy rfl B.list boot_list (wa_cons (we_var 1 rfl (.inl rfl) rfl no (wa_nil (vc_lstQ hd ?_))))) (fun env h => by cases env; cases h; rfl))
  refine wo_lst (wa_nil ⟨sz (Nat.le_of_ble_eq_true rfl), ?_⟩)
  refine wb_cons (ws_for [4] (wi_range1 rfl B.range (we_of_wo (wo_callB rfl B.len boot_len (wa_cons (we_var 1 rfl (.inl rfl) rfl no (wa_nil (vc_lenQ hd ⟨_, rfl, by omega, ?_⟩))))))))
  rw [Int.toNat_natCast]
  refine ⟨fun pre Δ' => ∃ es fs c4, Δ' = [some .pen, some d, some (.ol es), some (.ol fs), c4] ∧ (fs ++ es).Perm l ∧ fs.length = pre.length, ⟨l, [], _, rfl, .refl _, rfl⟩, ?_, ?_⟩
  · intro pre x post Δ' hsp ⟨es, fs, c4, hI, hp, hf⟩
    subst hI
    obtain ⟨rfl, hlt⟩ := rng_split hsp
    have hlen := hp.length_eq
    rw [List.length_append] at hlen
    refine wg_name 4 rfl (.inl rfl) (by decide) ?_
    refine wb_cons (ws_appPop 3 2 (by decide) rfl (.inl rfl) rfl rfl (.inl rfl) rfl (we_call d0 (Nat.le_of_ble_eq_true rfl) rfl ?_))
    refine wa_cons (we_var 0 rfl (.inl rfl) rfl rfl (wa_cons (we_borrow 2 rfl rfl (we_of_wo (wo_callB rfl B.len boot_len (wa_cons (we_var 2 rfl (.inl rfl) rfl rfl (wa_nil (vc_lenL ⟨rfl, ?_⟩)))))))))
    refine wa_nil ⟨_, rfl, by omega, by omega, fun a a0 a1 => ?_⟩
    obtain ⟨k, rfl, hk⟩ := nat_of a0 a1
    have e9 : (2 : Int) ^ 63 = 9223372036854775808 := by decide
    refine ⟨(k : Int), k, es[k], rfl, by rw [e9]; omega, by rw [e9]; omega, seqIndex_nat hk, List.getElem?_eq_getElem hk, by rw [sizeLine_eq]; omega, ?_⟩
    refine wb_nil ⟨es.eraseIdx k, fs ++ [es[k]], _, rfl, ?_, by rw [snoc_len, snoc_len, hf]⟩
    have h1 : (es[k] :: es.eraseIdx k).Perm es := erase_perm hk
    have h2 : (fs ++ [es[k]] ++ es.eraseIdx k).Perm (fs ++ es) := by
      rw [List.append_assoc]
      exact List.Perm.append_left fs h1
    exact h2.trans hp
  · intro Δ' ⟨es, fs, c4, hI, hp, hf⟩
    subst hI
    rw [rng_len] at hf
    have hlen := hp.length_eq
    rw [List.length_append] at hlen
    have he : es = [] := List.length_eq_zero_iff.mp (by omega)
    subst he
    rw [List.append_nil] at hp
    show WB _ _ _ _
    exact wb_cons (ws_retO 3 rfl (.inl rfl) rfl (q fs hp))
end
/-! YX: _law_standing_right. -/
theorem rep_same (n : Nat) (t : D) : (List.replicate n [t]).flatten = List.replicate n t := by
  induction n with
  | zero => rfl
  | succ n ih => rw [List.replicate_succ, List.flatten_cons, ih]; rfl
theorem no_at {Δ : Dl} {i : Nat} {d : D} (h : Δ[i]? = some (some d)) (ho : d.own = false) : (noOwn Δ)[i]? = some (some d) := by
  unfold noOwn
  rw [List.getElem?_map, h]
  show some (if d.own = true then none else some d) = _
  rw [if_neg (by rw [ho]; exact Bool.false_ne_true)]
theorem q_t {Q : D → Prop} {b : Bool} (h : b = true) (q : Q (.bl true)) : Q (.bl b) := by rw [h]; exact q
section
variable {P : Program} {w : World} {K : PySem.W.Frag} {mg : Str → Option Value} {base : Heap} {C N BR ND NX : Addr}
end
/-! YI: _law_caught; BadRow, NoDeed, NotDone made. -/
theorem sz_lt {n : Nat} (h : n ≤ 1000000) : n < sizeLine := by rw [sizeLine_eq]; omega
theorem len2 {ws : List V} (h : ws.length = 2) : ∃ y z, ws = [y, z] := by
  match ws, h with
  | [y, z], _ => exact ⟨y, z, rfl⟩
theorem nd_ne {l : List Addr} (h : l.Nodup) {i j : Nat} {a b : Addr} (ha : l[i]? = some a) (hb : l[j]? = some b) (hij : i ≠ j) : (a == b) = false := by
  rw [beq_eq_false_iff_ne]
  intro e
  subst e
  obtain ⟨hi, ei⟩ := List.getElem?_eq_some_iff.mp ha
  obtain ⟨hj, ej⟩ := List.getElem?_eq_some_iff.mp hb
  have := List.pairwise_iff_getElem.mp h
  rcases Nat.lt_or_gt_of_ne hij with z | z
  · exact this i j hi hj z (by rw [ei, ej])
  · exact this j i hj hi z (by rw [ei, ej])
theorem len1 {ws : List V} (h : ws.length = 1) : ∃ y, ws = [y] := by
  match ws, h with
  | [y], _ => exact ⟨y, rfl⟩
section
variable {P : Program} {w : World} {K : PySem.W.Frag} {mg : Str → Option Value} {base : Heap} {C PE : Addr}
end
end K15
end
section
set_option Elab.async false
set_option linter.all false
set_option maxRecDepth 100000
set_option maxHeartbeats 4000000
namespace K15
open PySem PySem.Spec PyProof.Rows L2 DL
/-! JP: plain behaviours: arrows, runs, least runs; breadth first. -/
abbrev Ar := Nat × Nat × Nat
def step (A : List Ar) (s d : Nat) : Option Nat := (A.find? fun a => decide (a.1 = s ∧ a.2.1 = d)).map (·.2.2)
def goes (A : List Ar) : Nat → List Nat → Option Nat
  | s, [] => some s
  | s, d :: r => match step A s d with
    | some t => goes A t r
    | none => none
theorem goes_append {A : List Ar} : ∀ {r q : List Nat} {s : Nat}, goes A s (r ++ q) = (goes A s r).bind fun t => goes A t q
  | [], q, s => rfl
  | d :: r, q, s => by
    show (match step A s d with | some t => goes A t (r ++ q) | none => none) = (match step A s d with | some t => goes A t r | none => none).bind _
    cases step A s d with
    | none => rfl
    | some t => exact goes_append
theorem goes_snoc {A : List Ar} {r : List Nat} {d s : Nat} : goes A s (r ++ [d]) = (goes A s r).bind fun t => step A t d := by
  rw [goes_append]
  congr 1
  funext t
  show (match step A t d with | some u => some u | none => none) = _
  cases step A t d <;> rfl
theorem step_mem {A : List Ar} {s d t : Nat} (nd : (A.map fun a => (a.1, a.2.1)).Nodup) : step A s d = some t ↔ (s, d, t) ∈ A := by
  unfold step
  constructor
  · intro h
    cases e : A.find? fun a => decide (a.1 = s ∧ a.2.1 = d) with
    | none => rw [e] at h; cases h
    | some a =>
      rw [e] at h
      have h1 := List.find?_some e
      have h2 := List.mem_of_find?_eq_some e
      obtain ⟨h3, h4⟩ := of_decide_eq_true h1
      have h5 : a.2.2 = t := Option.some.inj h
      have : a = (s, d, t) := by rw [← h3, ← h4, ← h5]
      rw [← this]; exact h2
  · intro h
    induction A with
    | nil => cases h
    | cons a A ih =>
      rw [List.map_cons, List.nodup_cons] at nd
      rw [List.find?_cons]
      by_cases e : a.1 = s ∧ a.2.1 = d
      · rw [decide_eq_true e]
        rcases List.mem_cons.mp h with rfl | h
        · rfl
        · exact absurd (List.mem_map.mpr ⟨(s, d, t), h, by rw [← e.1, ← e.2]⟩) nd.1
      · rw [decide_eq_false e]
        rcases List.mem_cons.mp h with rfl | h
        · exact absurd ⟨rfl, rfl⟩ e
        · exact ih nd.2 h
/-- the place of a row among all rows of deeds below b, shorter ones first -/
def rank (b : Nat) (r : List Nat) : Nat := r.foldl (fun acc d => acc * b + d + 1) 0
theorem rank_snoc (b : Nat) (r : List Nat) (d : Nat) : rank b (r ++ [d]) = rank b r * b + d + 1 := by unfold rank; rw [List.foldl_append]; rfl
def S (b : Nat) : Nat → Nat
  | 0 => 0
  | k + 1 => S b k * b + 1
theorem S_pow (b : Nat) : ∀ k, S b (k + 1) = S b k + b ^ k
  | 0 => by show 0 * b + 1 = 0 + b ^ 0; simp
  | k + 1 => by
    show S b (k + 1) * b + 1 = (S b k * b + 1) + b ^ (k + 1)
    rw [S_pow b k, Nat.add_mul, Nat.pow_succ]; omega
theorem S_mono {b : Nat} (hb : 1 ≤ b) {j k : Nat} (h : j ≤ k) : S b j ≤ S b k := by
  induction h with
  | refl => exact Nat.le_refl _
  | step _ ih => exact Nat.le_trans ih (by rw [S_pow]; omega)
theorem foldl_rank (b : Nat) : ∀ (r : List Nat) (a : Nat), r.foldl (fun acc d => acc * b + d + 1) a = a * b ^ r.length + rank b r
  | [], a => by show a = a * b ^ 0 + 0; simp
  | d :: r, a => by
    unfold rank
    rw [List.foldl_cons, List.foldl_cons, foldl_rank b r, foldl_rank b r (0 * b + d + 1), List.length_cons, Nat.pow_succ]
    rw [Nat.zero_mul, Nat.zero_add, Nat.add_assoc (a * b) d 1, Nat.add_mul, Nat.mul_assoc, Nat.mul_comm b (b ^ r.length)]
    omega
theorem rank_cons (b d : Nat) (r : List Nat) : rank b (d :: r) = (d + 1) * b ^ r.length + rank b r := by
  have := foldl_rank b r (0 * b + d + 1)
  show r.foldl _ (0 * b + d + 1) = _
  rw [this, Nat.zero_mul, Nat.zero_add]
theorem rank_bd {b : Nat} : ∀ {r : List Nat}, (∀ d ∈ r, d < b) → S b r.length ≤ rank b r ∧ rank b r < S b (r.length + 1)
  | [], _ => ⟨Nat.le_refl _, by show 0 < 0 * b + 1; omega⟩
  | d :: r, h => by
    obtain ⟨h1, h2⟩ := rank_bd (r := r) fun x hx => h x (List.mem_cons_of_mem _ hx)
    have hd := h d List.mem_cons_self
    rw [rank_cons, List.length_cons, S_pow b (r.length + 1)]
    rw [S_pow b r.length] at h2 ⊢
    have e1 : (d + 1) * b ^ r.length = d * b ^ r.length + b ^ r.length := Nat.succ_mul ..
    have e2 : (d + 1) * b ^ r.length ≤ b * b ^ r.length := Nat.mul_le_mul_right _ hd
    have e3 : b ^ (r.length + 1) = b * b ^ r.length := by rw [Nat.pow_succ, Nat.mul_comm]
    constructor <;> omega
theorem rank_len {b : Nat} (hb : 1 ≤ b) {r q : List Nat} (hr : ∀ d ∈ r, d < b) (hq : ∀ d ∈ q, d < b) (h : r.length < q.length) : rank b r < rank b q :=
  Nat.lt_of_lt_of_le (rank_bd hr).2 (Nat.le_trans (S_mono hb h) (rank_bd hq).1)
theorem rank_lex {b : Nat} : ∀ {r q : List Nat}, r.length = q.length → (∀ d ∈ r, d < b) → (∀ d ∈ q, d < b) → HT.lexLt (r.map fun (n : Nat) => (n : Int)) (q.map fun (n : Nat) => (n : Int)) = decide (rank b r < rank b q)
  | [], [], _, _, _ => by show false = decide (0 < 0); rfl
  | d :: r, e :: q, hl, hr, hq => by
    have hl : r.length = q.length := by simpa using hl
    have hr2 : ∀ d ∈ r, d < b := fun x hx => hr x (List.mem_cons_of_mem _ hx)
    have hq2 : ∀ d ∈ q, d < b := fun x hx => hq x (List.mem_cons_of_mem _ hx)
    have ih := rank_lex hl hr2 hq2
    rw [List.map_cons, List.map_cons, HT.lexLt_cons, rank_cons, rank_cons, hl]
    obtain ⟨a1, a2⟩ := rank_bd hr2
    obtain ⟨b1, b2⟩ := rank_bd hq2
    rw [hl] at a1 a2
    rw [S_pow] at a2 b2
    have key : ∀ {x y : Nat}, x < y → (x + 1) * b ^ q.length + b ^ q.length ≤ (y + 1) * b ^ q.length := fun {x y} h => by
      rw [← Nat.succ_mul]; exact Nat.mul_le_mul_right _ (by omega)
    by_cases h : d = e
    · subst h
      rw [if_pos rfl, ih]
      by_cases k : rank b r < rank b q
      · rw [decide_eq_true k, decide_eq_true (by omega)]
      · rw [decide_eq_false k, decide_eq_false (by omega)]
    · rw [if_neg (by omega)]
      by_cases k : d < e
      · rw [decide_eq_true (show (d : Int) < e by omega), decide_eq_true (by have := key k; omega)]
      · rw [decide_eq_false (show ¬ (d : Int) < e by omega), decide_eq_false (by have := key (show e < d by omega); omega)]
  | [], _ :: _, h, _, _ => by cases h
  | _ :: _, [], h, _, _ => by cases h
theorem rank_inj {b : Nat} (hb : 1 ≤ b) : ∀ {r q : List Nat}, (∀ d ∈ r, d < b) → (∀ d ∈ q, d < b) → rank b r = rank b q → r = q := fun {r q} hr hq h => by
  have hl : r.length = q.length := by
    rcases Nat.lt_trichotomy r.length q.length with k | k | k
    · have := rank_len hb hr hq k; omega
    · exact k
    · have := rank_len hb hq hr k; omega
  clear hb
  induction r generalizing q with
  | nil => cases q with | nil => rfl | cons _ _ => cases hl
  | cons d r ih =>
    cases q with
    | nil => cases hl
    | cons e q =>
      have hl2 : r.length = q.length := by simpa using hl
      have hr2 : ∀ d ∈ r, d < b := fun x hx => hr x (List.mem_cons_of_mem _ hx)
      have hq2 : ∀ d ∈ q, d < b := fun x hx => hq x (List.mem_cons_of_mem _ hx)
      rw [rank_cons, rank_cons, hl2] at h
      obtain ⟨a1, a2⟩ := rank_bd hr2
      obtain ⟨b1, b2⟩ := rank_bd hq2
      rw [hl2] at a1 a2
      rw [S_pow] at a2 b2
      have key : ∀ {x y : Nat}, x < y → (x + 1) * b ^ q.length + b ^ q.length ≤ (y + 1) * b ^ q.length := fun {x y} h => by
        rw [← Nat.succ_mul]; exact Nat.mul_le_mul_right _ (by omega)
      have hd : d = e := by
        rcases Nat.lt_trichotomy d e with k | k | k
        · have := key k; omega
        · exact k
        · have := key k; omega
      subst hd
      rw [ih hr2 hq2 (by omega) hl2]
/-- the program's own < of (len(r), r) -/
theorem rank_py {b : Nat} (hb : 1 ≤ b) {r q : List Nat} (hr : ∀ d ∈ r, d < b) (hq : ∀ d ∈ q, d < b) : (decide ((r.length : Int) < (q.length : Int)) || (decide ((r.length : Int) = (q.length : Int)) && HT.lexLt (r.map fun (n : Nat) => (n : Int)) (q.map fun (n : Nat) => (n : Int)))) = decide (rank b r < rank b q) := by
  rcases Nat.lt_trichotomy r.length q.length with k | k | k
  · rw [decide_eq_true (show (r.length : Int) < q.length by omega), decide_eq_true (rank_len hb hr hq k)]; rfl
  · rw [decide_eq_false (show ¬ (r.length : Int) < q.length by omega), decide_eq_true (show (r.length : Int) = q.length by omega), rank_lex k hr hq]; rfl
  · rw [decide_eq_false (show ¬ (r.length : Int) < q.length by omega), decide_eq_false (show ¬ (r.length : Int) = q.length by omega), decide_eq_false (by have := rank_len hb hq hr k; omega)]; rfl
/-- the least run to s -/
structure Least (A : List Ar) (b s : Nat) (r : List Nat) : Prop where
  go : goes A 0 r = some s
  dg : ∀ d ∈ r, d < b
  le : ∀ q, goes A 0 q = some s → rank b r ≤ rank b q
theorem Least.uniq {A : List Ar} {b s : Nat} {r q : List Nat} (hb : 1 ≤ b) (h : Least A b s r) (k : Least A b s q) : r = q :=
  rank_inj hb h.dg k.dg (Nat.le_antisymm (h.le q k.go) (k.le r h.go))
/-- breadth first: the stands found so far, in their order; place p, deed d is next -/
structure Bf (A : List Ar) (n b : Nat) (Z : List Nat) (f : Nat → List Nat) (p d : Nat) : Prop where
  nd : Z.Nodup
  lt : ∀ s ∈ Z, s < n
  z0 : 0 ∈ Z ∧ f 0 = []
  ls : ∀ s ∈ Z, Least A b s (f s)
  ln : ∀ s ∈ Z, (f s).length < Z.length
  up : Z.Pairwise fun x y => rank b (f x) < rank b (f y)
  dn : ∀ j u, j < p → Z[j]? = some u → ∀ e t, step A u e = some t → t ∈ Z
  dd : ∀ u, Z[p]? = some u → ∀ e t, e < d → step A u e = some t → t ∈ Z
  bd : ∀ u, Z[p]? = some u → ∀ y ∈ Z, rank b (f y) < rank b (f u) * b + d + 1
theorem goes_dg {A : List Ar} {b : Nat} (hA : ∀ a ∈ A, a.2.1 < b) : ∀ {r : List Nat} {s t : Nat}, goes A s r = some t → ∀ d ∈ r, d < b
  | [], _, _, _, d, hd => by cases hd
  | e :: r, s, t, h, d, hd => by
    have h : (match step A s e with | some u => goes A u r | none => none) = some t := h
    cases k : step A s e with
    | none => rw [k] at h; cases h
    | some u =>
      rw [k] at h
      rcases List.mem_cons.mp hd with rfl | hd
      · unfold step at k
        cases q : A.find? fun a => decide (a.1 = s ∧ a.2.1 = d) with
        | none => rw [q] at k; cases k
        | some a =>
          have h0 := List.find?_some q
          have h1 := (of_decide_eq_true h0).2
          rw [← h1]; exact hA a (List.mem_of_find?_eq_some q)
      · exact goes_dg hA h d hd
/-- every run of a lesser place than c leads to what is found -/
theorem Bf.below {A : List Ar} {n b : Nat} {Z : List Nat} {f : Nat → List Nat} {p d : Nat} (hb : 1 ≤ b) (hA : ∀ a ∈ A, a.2.1 < b) (hdb : d < b) (B : Bf A n b Z f p d) {u : Nat} (hu : Z[p]? = some u) :
    ∀ (k : Nat) {q : List Nat} {t : Nat}, q.length = k → goes A 0 q = some t → rank b q < rank b (f u) * b + d + 1 → t ∈ Z := by
  intro k
  induction k with
  | zero =>
    intro q t hk h _
    have : q = [] := List.length_eq_zero_iff.mp hk
    subst this
    have : 0 = t := Option.some.inj h
    subst this
    exact B.z0.1
  | succ k ih =>
    intro q t hk h hr
    have hne : q ≠ [] := fun e => by rw [e] at hk; cases hk
    obtain ⟨q0, e, rfl⟩ : ∃ q0 e, q = q0 ++ [e] := ⟨q.dropLast, q.getLast hne, (List.dropLast_concat_getLast hne).symm⟩
    rw [goes_snoc] at h
    cases hv : goes A 0 q0 with
    | none => rw [hv] at h; cases h
    | some v =>
      rw [hv] at h
      have h : step A v e = some t := h
      rw [rank_snoc] at hr
      have hb1 : rank b q0 ≤ rank b q0 * b := Nat.le_mul_of_pos_right _ hb
      have hvZ : v ∈ Z := ih (by rw [List.length_append] at hk; simpa using hk) hv (by omega)
      have hle := (B.ls v hvZ).le q0 hv
      have hlb : rank b (f v) * b ≤ rank b q0 * b := Nat.mul_le_mul_right b hle
      obtain ⟨j, hj, ej⟩ := List.getElem_of_mem hvZ
      have ej2 : Z[j]? = some v := by rw [List.getElem?_eq_getElem hj, ej]
      rcases Nat.lt_trichotomy j p with c | c | c
      · exact B.dn j v c ej2 e t h
      · subst c
        rw [hu] at ej2; cases ej2
        exact B.dd u hu e t (by omega) h
      · have hp : p < Z.length := (List.getElem?_eq_some_iff.mp hu).1
        have e1 : Z[p] = u := (List.getElem?_eq_some_iff.mp hu).2
        have := List.pairwise_iff_getElem.mp B.up p j hp hj c
        rw [e1, ej] at this
        have h3 : (rank b (f u) + 1) * b ≤ rank b (f v) * b := Nat.mul_le_mul_right b this
        rw [Nat.succ_mul] at h3
        have he : e < b := by
          have hg : goes A v [e] = some t := by show (match step A v e with | some u => some u | none => none) = _; rw [h]
          exact goes_dg hA hg e (by simp)
        exfalso
        omega
theorem Bf.grow {A : List Ar} {n b : Nat} {Z : List Nat} {f : Nat → List Nat} {p d u t : Nat} (hb : 1 ≤ b) (hA : ∀ a ∈ A, a.2.1 < b) (hn : ∀ a ∈ A, a.2.2 < n) (B : Bf A n b Z f p d) (hu : Z[p]? = some u) (hd : d < b) (hs : step A u d = some t) (ht : t ∉ Z) :
    Bf A n b (Z ++ [t]) (fun x => if x = t then f u ++ [d] else f x) p (d + 1) := by
  have huZ := List.mem_of_getElem? hu
  have hp : p < Z.length := (List.getElem?_eq_some_iff.mp hu).1
  have old : ∀ {x}, x ∈ Z → (if x = t then f u ++ [d] else f x) = f x := fun {x} hx => if_neg fun e => ht (by rw [← e]; exact hx)
  have rk : rank b (f u ++ [d]) = rank b (f u) * b + d + 1 := rank_snoc ..
  have lu := B.ls u huZ
  have htn : t < n := by
    unfold step at hs
    cases q : A.find? fun a => decide (a.1 = u ∧ a.2.1 = d) with
    | none => rw [q] at hs; cases hs
    | some a =>
      rw [q] at hs
      have : a.2.2 = t := Option.some.inj hs
      rw [← this]; exact hn a (List.mem_of_find?_eq_some q)
  have hup : (Z ++ [t])[p]? = some u := by rw [List.getElem?_append_left hp]; exact hu
  refine ⟨?_, ?_, ?_, ?_, ?_, ?_, ?_, ?_, ?_⟩
  · rw [List.nodup_append]
    refine ⟨B.nd, by simp, fun x hx y hy e => ?_⟩
    rw [List.mem_singleton] at hy
    exact ht (by rw [← hy, ← e]; exact hx)
  · intro s h
    rw [List.mem_append, List.mem_singleton] at h
    rcases h with h | rfl
    · exact B.lt s h
    · exact htn
  · exact ⟨List.mem_append_left _ B.z0.1, by rw [old B.z0.1]; exact B.z0.2⟩
  · intro s h
    rw [List.mem_append, List.mem_singleton] at h
    rcases h with h | rfl
    · rw [old h]; exact B.ls s h
    · rw [if_pos rfl]
      refine ⟨?_, fun x hx => ?_, fun q hq => ?_⟩
      · rw [goes_snoc, lu.go]; exact hs
      · rw [List.mem_append, List.mem_singleton] at hx
        rcases hx with hx | rfl
        · exact lu.dg x hx
        · exact hd
      · rw [rk]
        apply Nat.le_of_not_lt
        intro hlt
        exact ht (B.below hb hA hd hu q.length rfl hq hlt)
  · intro s h
    rw [List.length_append]
    rw [List.mem_append, List.mem_singleton] at h
    rcases h with h | rfl
    · rw [old h]; have := B.ln s h; show _ < _ + 1; omega
    · rw [if_pos rfl, List.length_append]; have := B.ln u huZ; show _ + 1 < _ + 1; omega
  · rw [List.pairwise_append]
    refine ⟨?_, by simp, fun x hx y hy => ?_⟩
    · exact B.up.imp_of_mem fun {x y} hx hy h => by rw [old hx, old hy]; exact h
    · rw [List.mem_singleton] at hy
      subst hy
      rw [old hx, if_pos rfl, rk]
      exact B.bd u hu x hx
  · intro j v hj hv e w hw
    rw [List.getElem?_append_left (by omega)] at hv
    exact List.mem_append_left _ (B.dn j v hj hv e w hw)
  · intro v hv e w he hw
    rw [hup] at hv; cases hv
    by_cases h : e = d
    · subst h
      rw [hs] at hw; cases hw
      exact List.mem_append_right _ (by simp)
    · exact List.mem_append_left _ (B.dd u hu e w (by omega) hw)
  · intro v hv y hy
    rw [hup] at hv; cases hv
    rw [old huZ]
    rw [List.mem_append, List.mem_singleton] at hy
    rcases hy with hy | rfl
    · rw [old hy]; have := B.bd u hu y hy; omega
    · rw [if_pos rfl, rk]; omega
theorem Bf.skip {A : List Ar} {n b : Nat} {Z : List Nat} {f : Nat → List Nat} {p d u : Nat} (B : Bf A n b Z f p d) (hu : Z[p]? = some u) (h : ∀ t, step A u d = some t → t ∈ Z) : Bf A n b Z f p (d + 1) :=
  ⟨B.nd, B.lt, B.z0, B.ls, B.ln, B.up, B.dn, fun v hv e w he hw => by
    rw [hu] at hv; cases hv
    by_cases k : e = d
    · subst k; exact h w hw
    · exact B.dd u hu e w (by omega) hw, fun v hv y hy => by have := B.bd v hv y hy; omega⟩
theorem Bf.next {A : List Ar} {n b : Nat} {Z : List Nat} {f : Nat → List Nat} {p u : Nat} (hA : ∀ a ∈ A, a.2.1 < b) (B : Bf A n b Z f p b) (hu : Z[p]? = some u) : Bf A n b Z f (p + 1) 0 := by
  have hp : p < Z.length := (List.getElem?_eq_some_iff.mp hu).1
  have e1 : Z[p] = u := (List.getElem?_eq_some_iff.mp hu).2
  refine ⟨B.nd, B.lt, B.z0, B.ls, B.ln, B.up, fun j v hj hv e w hw => ?_, fun v hv e w he => absurd he (by omega), fun v hv y hy => ?_⟩
  · by_cases k : j = p
    · subst k
      rw [hu] at hv; cases hv
      have he : e < b := by
        have hg : goes A u [e] = some w := by show (match step A u e with | some u => some u | none => none) = _; rw [hw]
        exact goes_dg hA hg e (by simp)
      exact B.dd u hu e w he hw
    · exact B.dn j v (by omega) hv e w hw
  · have hq : p + 1 < Z.length := (List.getElem?_eq_some_iff.mp hv).1
    have e2 : Z[p + 1] = v := (List.getElem?_eq_some_iff.mp hv).2
    have h1 := List.pairwise_iff_getElem.mp B.up p (p + 1) hp hq (by omega)
    rw [e1, e2] at h1
    have h2 := B.bd u hu y hy
    have h3 : (rank b (f u) + 1) * b ≤ rank b (f v) * b := Nat.mul_le_mul_right b h1
    rw [Nat.succ_mul] at h3
    omega
theorem Bf.start {A : List Ar} {n b : Nat} (hn : 1 ≤ n) : Bf A n b [0] (fun _ => []) 0 0 :=
  ⟨by simp, fun s h => by rw [List.mem_singleton] at h; omega, ⟨by simp, rfl⟩, fun s h => by
    rw [List.mem_singleton] at h; subst h
    exact ⟨rfl, fun d hd => (nomatch hd), fun q _ => Nat.zero_le _⟩, fun s h => by show 0 < 1; omega, by simp, fun j u hj => absurd hj (by omega), fun u _ e t he => absurd he (by omega), fun u hu y hy => by show 0 < _; omega⟩
/-- at the end: all stands that runs come to -/
theorem Bf.all {A : List Ar} {n b : Nat} {Z : List Nat} {f : Nat → List Nat} {p d : Nat} (B : Bf A n b Z f p d) (hp : Z.length ≤ p) : ∀ (k : Nat) {q : List Nat} {t : Nat}, q.length = k → goes A 0 q = some t → t ∈ Z := by
  intro k
  induction k with
  | zero =>
    intro q t hk h
    have : q = [] := List.length_eq_zero_iff.mp hk
    subst this
    have : 0 = t := Option.some.inj h
    subst this
    exact B.z0.1
  | succ k ih =>
    intro q t hk h
    have hne : q ≠ [] := fun e => by rw [e] at hk; cases hk
    obtain ⟨q0, e, rfl⟩ : ∃ q0 e, q = q0 ++ [e] := ⟨q.dropLast, q.getLast hne, (List.dropLast_concat_getLast hne).symm⟩
    rw [goes_snoc] at h
    cases hv : goes A 0 q0 with
    | none => rw [hv] at h; cases h
    | some v =>
      rw [hv] at h
      have h : step A v e = some t := h
      have hvZ : v ∈ Z := ih (by rw [List.length_append] at hk; simpa using hk) hv
      obtain ⟨j, hj, ej⟩ := List.getElem_of_mem hvZ
      exact B.dn j v (by omega) (by rw [List.getElem?_eq_getElem hj, ej]) e t h
theorem nodup_le {α : Type} [BEq α] [LawfulBEq α] : ∀ {a b : List α}, a.Nodup → (∀ x ∈ a, x ∈ b) → a.length ≤ b.length
  | [], _, _, _ => Nat.zero_le _
  | x :: a, b, nd, h => by
    rw [List.nodup_cons] at nd
    have hx := h x List.mem_cons_self
    have ih := nodup_le (a := a) (b := b.erase x) nd.2 fun y hy => (List.mem_erase_of_ne (fun e => nd.1 (by rw [← e]; exact hy))).mpr (h y (List.mem_cons_of_mem _ hy))
    rw [List.length_erase_of_mem hx] at ih
    have := List.length_pos_of_mem hx
    rw [List.length_cons]; omega
theorem Bf.sz {A : List Ar} {n b : Nat} {Z : List Nat} {f : Nat → List Nat} {p d : Nat} (B : Bf A n b Z f p d) : Z.length ≤ n := by
  have := nodup_le B.nd (b := List.range n) fun x hx => List.mem_range.mpr (B.lt x hx)
  rwa [List.length_range] at this
/-- rows of a behaviour -/
structure Rw (xs : List Str) (n : Nat) (A : List Ar) : Prop where
  nm : NmsOk xs
  x : xs.length ≤ 8
  n1 : 1 ≤ n
  n2 : n ≤ 60
  rg : ∀ a ∈ A, a.1 < n ∧ a.2.1 < xs.length ∧ a.2.2 < n
  nd : (A.map fun a => (a.1, a.2.1)).Nodup
  so : A.Pairwise fun a c => TS.code 64 [(a.1 : Int), a.2.1, a.2.2] ≤ TS.code 64 [(c.1 : Int), c.2.1, c.2.2]
  len : A.length < 64
  re : ∀ s, s < n → ∃ r, goes A 0 r = some s
def aI (a : Ar) : List Int := [(a.1 : Int), (a.2.1 : Int), (a.2.2 : Int)]
def aD (a : Ar) : D := .tup [.int a.1, .int a.2.1, .int a.2.2]
def kA (a : Ar) : List Key := [.inl a.1, .inl a.2.1]
def vA (a : Ar) : D := .int a.2.2
def kS (s : Nat) : Key := .inl s
def wD (f : Nat → List Nat) (s : Nat) : D := .tup (iN (f s))
def rowsD (xs : List Str) (n : Nat) (A : List Ar) : D := .tup [.tup (sL xs), .int n, .tup (A.map aD)]
theorem look_A : ∀ {A : List Ar} {s d : Nat}, lookD (A.map kA) (A.map vA) ([.inl (s : Int), .inl (d : Int)] : List Key) = (step A s d).map fun t => .int (t : Int)
  | [], s, d => rfl
  | a :: A, s, d => by
    have ih := look_A (A := A) (s := s) (d := d)
    show (if kA a = _ then some (vA a) else lookD (A.map kA) (A.map vA) _) = _
    unfold step
    rw [List.find?_cons]
    by_cases e : a.1 = s ∧ a.2.1 = d
    · rw [decide_eq_true e, if_pos (by unfold kA; rw [e.1, e.2])]; rfl
    · rw [decide_eq_false e, if_neg (fun h => e (by
        unfold kA at h
        simp only [List.cons.injEq, Sum.inl.injEq, and_true] at h
        omega)), ih]; rfl
theorem look_S : ∀ {Z : List Nat} {f : Nat → List Nat} {s : Nat}, lookD (Z.map kS) (Z.map (wD f)) (.inl (s : Int)) = if s ∈ Z then some (wD f s) else none
  | [], f, s => by rw [if_neg (by simp)]; rfl
  | z :: Z, f, s => by
    have ih := look_S (Z := Z) (f := f) (s := s)
    show (if kS z = _ then some (wD f z) else lookD (Z.map kS) (Z.map (wD f)) _) = _
    by_cases e : z = s
    · subst e
      rw [if_pos (show kS z = (Sum.inl (z : Int) : Key) from rfl), if_pos (by simp)]
    · rw [if_neg (fun h => e (by unfold kS at h; have := Sum.inl.inj h; omega)), ih]
      by_cases m : s ∈ Z
      · rw [if_pos m, if_pos (by simp [m])]
      · rw [if_neg m, if_neg (by
          rw [List.mem_cons]
          intro h
          rcases h with h | h
          · exact e h.symm
          · exact m h)]
end K15
end
section
set_option Elab.async false
set_option linter.all false
set_option maxRecDepth 100000
set_option maxHeartbeats 4000000
namespace K15
open PySem PySem.Spec PyProof.Rows L2 DL
/-! JD: need_names, need_leads, found_ways, Behaviour. -/
def bN : List Str := ["deeds", "many", "leads", "arrows", "ways", "kept"]
def bF (xs : List Str) (n : Nat) (A : List Ar) (Z : List Nat) (f : Nat → List Nat) : List D :=
  [.tup (sL xs), .int n, .fT (A.map kA) (A.map vA), .tup (A.map aD), .dK (Z.map kS) (Z.map (wD f)), .dK [] []]
def spNeedNames : DSp := fun ds Q _ => ∃ xs, ds = [.tup (sL xs)] ∧ NmsOk xs ∧ Q (.tup (sL xs))
def spNeedLeads : DSp := fun ds Q _ => ∃ (b n : Nat) (A : List Ar), ds = [.int b, .int n, .tup (A.map aD)] ∧ (∀ a ∈ A, a.1 < n ∧ a.2.1 < b ∧ a.2.2 < n) ∧ (A.map fun a => (a.1, a.2.1)).Nodup ∧ A.length ≤ 1000 ∧ ∀ q, Q (.oT q (A.map kA) (A.map vA))
def spFoundWays (C : Addr) : DSp := fun ds Q _ => ∃ ns l xs n A, ds = [.ins C ns l] ∧ (ns.zip l).lookup ("deeds" : Str) = some (.tup (sL xs)) ∧ (ns.zip l).lookup ("leads" : Str) = some (.fT (A.map kA) (A.map vA)) ∧ xs.length ≤ 1000 ∧ 1 ≤ xs.length ∧ 1 ≤ n ∧ n ≤ 1000 ∧
  (∀ a ∈ A, a.2.1 < xs.length ∧ a.2.2 < n) ∧ ∀ q Z f, Bf A n xs.length Z f Z.length 0 → Q (.oK q (Z.map kS) (Z.map (wD f)))
def spBeh : ISp := fun ds Q _ => ∃ xs n A, ds = [.tup (sL xs), .int ((n : Nat) : Int), .tup (A.map aD)] ∧ Rw xs n A ∧ ∀ Z f, Bf A n xs.length Z f Z.length 0 → Q bN (bF xs n A Z f)
theorem tup_map {l : List (List Nat)} : tupOnlys (l.map fun r => .tup (iN r)) = true := by
  have h1 : ∀ r : List Nat, tupOnlys (iN r) = true := fun r => by
    induction r with
    | nil => rfl
    | cons a r ih => show (true && tupOnlys (iN r)) = true; rw [ih]; rfl
  induction l with
  | nil => rfl
  | cons a l ih => show (tupOnlys (iN a) && tupOnlys (l.map fun r => .tup (iN r))) = true; rw [h1, ih]; rfl
theorem tup_wD (f : Nat → List Nat) (Z : List Nat) : tupOnlys (Z.map (wD f)) = true := by
  have : Z.map (wD f) = (Z.map f).map fun r => D.tup (iN r) := by rw [List.map_map]; rfl
  rw [this]; exact tup_map
theorem kA_inj {a c : Ar} (h : kA a = kA c) : (a.1, a.2.1) = (c.1, c.2.1) := by
  unfold kA at h
  simp only [List.cons.injEq, Sum.inl.injEq, and_true] at h
  ext
  · show a.1 = c.1; omega
  · show a.2.1 = c.2.1; omega
theorem look_none {κ : Type} [DecidableEq κ] : ∀ {ks : List κ} {l : List D} {k : κ}, k ∉ ks → lookD ks l k = none
  | [], l, k, _ => by cases l <;> rfl
  | k' :: ks, [], k, _ => rfl
  | k' :: ks, d :: l, k, h => by
    rw [List.mem_cons] at h
    show (if k' = k then some d else lookD ks l k) = none
    rw [if_neg fun e => h (.inl e.symm)]
    exact look_none fun m => h (.inr m)
theorem put_newT {κ : Type} [DecidableEq κ] {ks : List κ} {l : List D} {k : κ} {x : D} (h : k ∉ ks) : putKs ks k = ks ++ [k] ∧ putDs ks l k x = l ++ [x] := by
  unfold putKs putDs
  rw [if_neg h, if_neg h]; exact ⟨rfl, rfl⟩
section
variable {P : Program} {w : World} {K : PySem.W.Frag} {mg : Str → Option Value} {base : Heap} {C : Addr}
abbrev s_needNames : Stmt := top 23
theorem sc_needNames : FnScope ["deeds", "name"] ["deeds"] (defScope s_needNames) := ⟨rfl, rfl, rfl, by decide +kernel, rfl, by decide +kernel, by decide +kernel⟩
theorem ok_needNames {f : Addr} {fd : FuncData} (B : Bl mg) (F : Fun K "need_names" "need_names" s_needNames f fd) (d0 : Def P w K mg base 2 "is_short_of_names" spShort) : FnOk P w K mg base (L2.CX P w) 3 f fd ["deeds"] (lift K spNeedNames) := by
  refine def_ok F sc_needNames (fun ds Q E ⟨_, e, _⟩ => by rw [e]; rfl) fun ds Q E ⟨xs, e, nm, q⟩ => ?_
  subst e
  have hln := nm.ln
  refine wb_cons (ws_if (wt_val (we_call d0 (Nat.le_of_ble_eq_true rfl) rfl (wa_cons (we_var 0 rfl (.inl rfl) rfl rfl (wa_nil ⟨xs, rfl, nm, _, rfl, if_f rfl (wb_nil ?_)⟩))))))
  refine wb_cons (ws_ret (wo_callTy rfl B.tuple boot_tuple (wa_cons (we_lc [("name", 1)] (by dsimp only [Cf.blk]; decide +kernel) (wi_tup (we_var 0 rfl (.inl rfl) rfl rfl ⟨_, rfl, ?_, fun pre acc => acc = pre, rfl, ?_, ?_⟩))))))
  · rw [sL_len]; exact sz (by omega)
  · intro pre x post acc hsp hle hI
    obtain ⟨p, q2, i, rfl, rfl, rfl, rfl⟩ := sL_split hsp
    subst hI
    exact wg_name 1 rfl (.inl rfl) (by decide) (we_of_wo (wo_callTy rfl B.str boot_str (wa_cons (we_var 1 rfl (.inl rfl) rfl rfl (wa_nil (vc_strS rfl))))))
  · intro acc hle hI
    subst hI
    exact wa_nil (vc_tupL q)
abbrev s_needLeads : Stmt := top 25
theorem sc_needLeads : FnScope ["many_deeds", "many", "arrows", "leads", "row", "stand", "deed", "last"] ["many_deeds", "many", "arrows"] (defScope s_needLeads) := ⟨rfl, rfl, rfl, by decide +kernel, rfl, by decide +kernel, by decide +kernel⟩
theorem ok_needLeads {f : Addr} {fd : FuncData} (B : Bl mg) (F : Fun K "need_leads" "need_leads" s_needLeads f fd) (d0 : Def P w K mg base 2 "is_index" spIndex) : FnOk P w K mg base (L2.CX P w) 3 f fd ["many_deeds", "many", "arrows"] (lift K spNeedLeads) := by
  refine def_ok F sc_needLeads (fun ds Q E ⟨_, _, _, e, _⟩ => by rw [e]; rfl) fun ds Q E ⟨b, n, A, e, hrg, hnd, hlen, q⟩ => ?_
  subst e
  refine wb_cons (ws_if (wt_not (wt_val (we_of_wo (wo_callB rfl B.isinstance boot_isinstance (wa_cons (we_var 2 rfl (.inl rfl) rfl rfl (wa_cons (we_tup (wa_cons (we_ty rfl B.list boot_list (wa_cons (we_ty rfl B.tuple boot_tuple (wa_nil ⟨sz (Nat.le_of_ble_eq_true rfl), wa_nil (vc_isiT (T := "tuple") ["list", "tuple"] (k := true) rfl (by decide +kernel) ⟨_, rfl, if_f rfl (wb_nil ?_)⟩)⟩))))))))))))))
  refine wb_cons (ws_set 3 rfl (.inl rfl) (wo_dictT fun q0 => ?_))
  refine wb_cons (ws_for [4] (wi_tup (we_var 2 rfl (.inl rfl) rfl rfl ⟨_, rfl, ?_⟩)))
  refine ⟨fun pre Δ' => ∃ c4 c5 c6 c7, Δ' = [some (.int b), some (.int n), some (.tup (A.map aD)), some (.oT q0 ((A.take pre.length).map kA) ((A.take pre.length).map vA)), c4, c5, c6, c7], ⟨_, _, _, _, rfl⟩, ?_, ?_⟩
  · intro pre x post Δ' hsp ⟨c4, c5, c6, c7, hI⟩
    subst hI
    obtain ⟨a, ha, rfl⟩ := map_at hsp
    have ham := List.mem_of_getElem? ha
    obtain ⟨r1, r2, r3⟩ := hrg a ham
    have hkn : kA a ∉ (A.take pre.length).map kA := fun h => by
      obtain ⟨c, hc, ec⟩ := List.mem_map.mp h
      obtain ⟨j, hj, ej⟩ := List.getElem_of_mem hc
      rw [List.length_take] at hj
      rw [List.getElem_take] at ej
      have hl : pre.length < A.length := (List.getElem?_eq_some_iff.mp ha).1
      have ea : A[pre.length] = a := (List.getElem?_eq_some_iff.mp ha).2
      have := List.pairwise_iff_getElem.mp hnd j pre.length (by rw [List.length_map]; omega) (by rw [List.length_map]; exact hl) (by omega)
      rw [List.getElem_map, List.getElem_map, ej, ea] at this
      exact this (kA_inj ec)
    have hix : ∀ {i m : Nat}, i < m → idxB (m : Int) (.int (i : Int)) = true := fun {i m} h => decide_eq_true ⟨by omega, by omega⟩
    dsimp only
    rw [snoc_len, take_at ha, List.map_append, List.map_append]
    refine wg_name 4 rfl (.inl rfl) (by decide) ?_
    refine wb_cons (ws_if (wt_pw (ww_or (wt_not (wt_val (we_of_wo (wo_callB rfl B.isinstance boot_isinstance (wa_cons (we_var 4 rfl (.inl rfl) rfl rfl (wa_cons (we_ty rfl B.tuple boot_tuple (wa_nil (vc_isi (k := true) rfl (by decide +kernel) ⟨_, rfl, if_f rfl ?_⟩)))))))))))))
    refine ww_or1 (wt_cmp (we_of_wo (wo_callB rfl B.len boot_len (wa_cons (we_var 4 rfl (.inl rfl) rfl rfl (wa_nil (vc_lenT (we_int (vo_nei ⟨_, rfl, if_f rfl (wb_nil ?_)⟩)))))))))
    refine wb_cons (ws_unpack [5, 6, 7] (we_var 4 rfl (.inl rfl) rfl rfl (wg_tup rfl (wgs_cons (wg_name 5 rfl (.inl rfl) (by decide) (wgs_cons (wg_name 6 rfl (.inl rfl) (by decide) (wgs_cons (wg_name 7 rfl (.inl rfl) (by decide) (wgs_nil ?_))))))))))
    refine wb_cons (ws_if (wt_pw (ww_or (wt_not (wt_val (we_call d0 (Nat.le_of_ble_eq_true rfl) rfl (wa_cons (we_var 5 rfl (.inl rfl) rfl rfl (wa_cons (we_var 1 rfl (.inl rfl) rfl rfl (wa_nil ⟨_, _, _, rfl, rfl, _, rfl, if_f (by rw [hix r1]; rfl) ?_⟩)))))))))))
    refine ww_or (wt_not (wt_val (we_call d0 (Nat.le_of_ble_eq_true rfl) rfl (wa_cons (we_var 6 rfl (.inl rfl) rfl rfl (wa_cons (we_var 0 rfl (.inl rfl) rfl rfl (wa_nil ⟨_, _, _, rfl, rfl, _, rfl, if_f (by rw [hix r2]; rfl) ?_⟩))))))))
    refine ww_or1 (wt_not (wt_val (we_call d0 (Nat.le_of_ble_eq_true rfl) rfl (wa_cons (we_var 7 rfl (.inl rfl) rfl rfl (wa_cons (we_var 1 rfl (.inl rfl) rfl rfl (wa_nil ⟨_, _, _, rfl, rfl, _, rfl, if_f (by rw [hix r3]; rfl) (wb_nil ?_)⟩))))))))
    refine wb_cons (ws_if (wt_oin 3 rfl (.inl rfl) rfl rfl (we_tup (wa_cons (we_var 5 rfl (.inl rfl) rfl rfl (wa_cons (we_var 6 rfl (.inl rfl) rfl rfl (wa_nil ⟨sz (Nat.le_of_ble_eq_true rfl), ?_⟩))))))))
    refine ⟨_, .oT (k := kA a) rfl, ?_⟩
    rw [look_none hkn]
    refine if_f rfl (wb_nil ?_)
    refine wb_cons (ws_putT 3 rfl (.inl rfl) rfl (we_var 7 rfl (.inl rfl) rfl rfl (we_tup (wa_cons (we_var 5 rfl (.inl rfl) rfl rfl (wa_cons (we_var 6 rfl (.inl rfl) rfl rfl (wa_nil ⟨sz (Nat.le_of_ble_eq_true rfl), kA a, rfl, ?_, ?_⟩))))))))
    · rw [List.length_map, List.length_take, sizeLine_eq]; omega
    obtain ⟨e1, e2⟩ := put_newT (l := (A.take pre.length).map vA) (x := vA a) hkn
    refine wb_nil ⟨some (aD a), some (.int a.1), some (.int a.2.1), some (.int a.2.2), ?_⟩
    show [_, _, _, some (D.oT q0 (putKs _ _) (putDs _ _ _ (vA a))), _, _, _, _] = _
    rw [e1, e2]; rfl
  · intro Δ' ⟨c4, c5, c6, c7, hI⟩
    rw [List.length_map, List.take_length] at hI
    subst hI
    show WB _ _ _ _
    exact wb_cons (ws_retO 3 rfl (.inl rfl) rfl (q q0))
end
end K15
end
section
set_option Elab.async false
set_option linter.all false
set_option maxRecDepth 100000
set_option maxHeartbeats 4000000
namespace K15
open PySem PySem.Spec PyProof.Rows L2 DL
/-! JE: found_ways. -/
section
variable {P : Program} {w : World} {K : PySem.W.Frag} {mg : Str → Option Value} {base : Heap} {C : Addr}
abbrev s_foundWays : Stmt := top 26
theorem sc_foundWays : FnScope ["behaviour", "ways", "waiting", "later", "stand", "deed", "last"] ["behaviour"] (defScope s_foundWays) := ⟨rfl, rfl, rfl, by decide +kernel, rfl, by decide +kernel, by decide +kernel⟩
theorem wD_upd {Z : List Nat} {f : Nat → List Nat} {t : Nat} {r : List Nat} (ht : t ∉ Z) : Z.map (wD fun x => if x = t then r else f x) = Z.map (wD f) := List.map_congr_left fun x hx => by
  show D.tup (iN (if x = t then r else f x)) = D.tup (iN (f x))
  rw [if_neg fun e => ht (by rw [← e]; exact hx)]
theorem ok_foundWays {f : Addr} {fd : FuncData} (B : Bl mg) (BF : CFx K mg "Behaviour" C bN) (F : Fun K "found_ways" "found_ways" s_foundWays f fd) : FnOk P w K mg base (L2.CX P w) 1 f fd ["behaviour"] (lift K (spFoundWays C)) := by
  refine def_ok F sc_foundWays (fun ds Q E ⟨_, _, _, _, _, e, _⟩ => by rw [e]; rfl) fun ds Q E ⟨ns, l, xs, n, A, e, ld, ll, hx, hxp, hn1, hn, hA, q⟩ => ?_
  subst e
  have hA1 : ∀ a ∈ A, a.2.1 < xs.length := fun a ha => (hA a ha).1
  have hA2 : ∀ a ∈ A, a.2.2 < n := fun a ha => (hA a ha).2
  refine wb_cons ?_
  refine ws_parO 1 2 ?_ ?_ ?_ ?_ ?_ ?_ ?_
  · rfl
  · rfl
  · decide
  · rfl
  · rfl
  rotate_left
  · intro env h; cases env; cases h; rfl
  refine wo_disp1 ?_
  refine we_int ⟨_, rfl, ?_⟩
  refine we_tup (wa_nil ⟨sz (Nat.le_of_ble_eq_true rfl), fun p => ?_⟩)
  refine wo_lst (wa_cons (we_int (wa_nil ⟨sz (Nat.le_of_ble_eq_true rfl), ?_⟩)))
  refine ws_freeze 2 rfl rfl ?_
  refine wb_cons (ws_while (fun m Δ' => ∃ Z f lo c3 c4 c5 c6, Δ' = [some (.ins C ns l), some (.oK p (Z.map kS) (Z.map (wD f))), some (.lst (iN (Z.drop lo))), c3, c4, c5, c6] ∧ Bf A n xs.length Z f lo 0 ∧ lo ≤ Z.length ∧ m = 2 * (n - Z.length) + (if lo < Z.length then 1 else 0)) _ ⟨[0], fun _ => [], 0, _, _, _, _, rfl, Bf.start hn1, by simp, rfl⟩ ?_)
  intro m Δ' ⟨Z, f, lo, c3, c4, c5, c6, hI, bf, hlo, hm⟩
  subst hI
  refine wt_truth (we_var 2 rfl (.inl rfl) rfl rfl ⟨_, rfl, ?_⟩)
  have hem : (!(iN (Z.drop lo)).isEmpty) = decide (lo < Z.length) := by
    by_cases h : lo < Z.length
    · rw [decide_eq_true h]
      have : (iN (Z.drop lo)).length ≠ 0 := by rw [iN_len, List.length_drop]; omega
      cases k : iN (Z.drop lo) with
      | nil => rw [k] at this; exact absurd rfl this
      | cons _ _ => rfl
    · rw [decide_eq_false h, List.drop_eq_nil_of_le (by omega)]; rfl
  rw [hem]
  by_cases hlt : lo < Z.length
  · rw [decide_eq_true hlt, if_pos rfl]
    rw [if_pos hlt] at hm
    have hZn := bf.sz
    refine wb_cons (ws_set 3 rfl (.inl rfl) (wo_lst (wa_nil ⟨sz (Nat.le_of_ble_eq_true rfl), ?_⟩)))
    refine wb_cons (ws_for [4] (wi_lst (we_var 2 rfl (.inl rfl) rfl rfl ⟨_, rfl, ?_⟩)))
    refine ⟨fun pre Δ' => ∃ L f c4 c5 c6, Δ' = [some (.ins C ns l), some (.oK p ((Z ++ L).map kS) ((Z ++ L).map (wD f))), some (.lst (iN (Z.drop lo))), some (.ol (iN L)), c4, c5, c6] ∧ Bf A n xs.length (Z ++ L) f (lo + pre.length) 0, ⟨[], f, _, _, _, by rw [List.append_nil]; rfl, by rw [List.append_nil]; exact bf⟩, ?_, ?_⟩
    · intro pre x post Δ' hsp ⟨L, f, c4, c5, c6, hI, bf⟩
      subst hI
      obtain ⟨u, hu, rfl⟩ := iN_split hsp
      rw [List.getElem?_drop] at hu
      refine wg_name 4 rfl (.inl rfl) (by decide) ?_
      refine wb_cons (ws_for [5] (wi_range1 rfl B.range (we_of_wo (wo_callB rfl B.len boot_len (wa_cons (we_fld (we_var 0 rfl (.inl rfl) rfl rfl ⟨C, ns, l, _, rfl, BF.cl.cl, BF.no _ (by simp [bN]), ld, wa_nil (vc_lenT ⟨_, rfl, by rw [sL_len]; omega, ?_⟩)⟩)))))))
      rw [sL_len, Int.toNat_natCast]
      refine ⟨fun pre2 Δ' => ∃ L f c5 c6, Δ' = [some (.ins C ns l), some (.oK p ((Z ++ L).map kS) ((Z ++ L).map (wD f))), some (.lst (iN (Z.drop lo))), some (.ol (iN L)), some (.int (u : Int)), c5, c6] ∧ Bf A n xs.length (Z ++ L) f (lo + pre.length) pre2.length, ⟨L, f, _, _, rfl, bf⟩, ?_, ?_⟩
      · intro pre2 y post2 Δ' hsp2 ⟨L, f, c5, c6, hI, bf⟩
        subst hI
        obtain ⟨rfl, hd⟩ := rng_split hsp2
        rw [Int.zero_add]
        dsimp only
        rw [snoc_len]
        obtain ⟨d, hde⟩ : ∃ d, pre2.length = d := ⟨_, rfl⟩
        rw [hde] at bf hd ⊢
        have hup : (Z ++ L)[lo + pre.length]? = some u := by
          rw [List.getElem?_append_left (List.getElem?_eq_some_iff.mp hu).1]; exact hu
        have huZ := List.mem_of_getElem? hup
        have hZL := bf.sz
        refine wg_name 5 rfl (.inl rfl) (by decide) ?_
        refine wb_cons (ws_set 6 rfl (.inl rfl) (wo_of_we (we_dget1 (we_fld (we_var 0 rfl (.inl rfl) rfl rfl ⟨C, ns, l, _, rfl, BF.cl.cl, BF.no _ (by simp [bN]), ll, rfl, we_tup (wa_cons (we_var 4 rfl (.inl rfl) rfl rfl (wa_cons (we_var 5 rfl (.inl rfl) rfl rfl (wa_nil ⟨sz (Nat.le_of_ble_eq_true rfl), _, .fT (k := [.inl (u : Int), .inl (d : Int)]) rfl, ?_⟩)))))⟩)))))
        rw [look_A]
        cases hs : step A u d with
        | none =>
          refine wb_cons (ws_if (wt_pw (ww_and (wt_cmp (we_var 6 rfl (.inl rfl) rfl rfl (we_non (vo_notN ⟨_, rfl, if_f rfl ?_⟩)))))))
          exact wb_nil (wb_nil ⟨L, f, _, _, rfl, bf.skip hup fun t h => by rw [hs] at h; cases h⟩)
        | some t =>
          refine wb_cons (ws_if (wt_pw (ww_and (wt_cmp (we_var 6 rfl (.inl rfl) rfl rfl (we_non (vo_notN ⟨_, rfl, if_t rfl ?_⟩)))))))
          refine ww_and1 (wt_oni 1 rfl (.inl rfl) rfl rfl (we_var 6 rfl (.inl rfl) rfl rfl ⟨_, .oK (k := .inl (t : Int)) rfl, ?_⟩))
          rw [look_S]
          by_cases ht : t ∈ Z ++ L
          · rw [if_pos ht]
            exact if_f rfl (wb_nil (wb_nil ⟨L, f, _, _, rfl, bf.skip hup fun t2 h => by rw [hs] at h; cases h; exact ht⟩))
          · rw [if_neg ht]
            have hfl := bf.ln u huZ
            refine if_t rfl ?_
            refine wb_cons (ws_putK 1 rfl (.inl rfl) rfl (we_tup (wa_star (we_oix 1 rfl (.inl rfl) rfl rfl (we_var 4 rfl (.inl rfl) rfl rfl ⟨wD f u, ?_, iN (f u), .inl rfl, ?_⟩)))))
            · have e0 := look_S (Z := Z ++ L) (f := f) (s := u)
              rw [if_pos huZ] at e0
              rw [← e0]
              exact .oK (k := .inl (u : Int)) rfl
            refine wa_cons (we_var 5 rfl (.inl rfl) rfl rfl (wa_nil ⟨by rw [List.length_append, iN_len, sizeLine_eq]; show _ + 1 ≤ _; omega, we_var 6 rfl (.inl rfl) rfl rfl ⟨.inl (t : Int), rfl, by rw [List.length_map, sizeLine_eq]; omega, ?_⟩⟩))
            have hkn : kS t ∉ (Z ++ L).map kS := fun h => by
              obtain ⟨c, hc, ec⟩ := List.mem_map.mp h
              have ec := Sum.inl.inj ec
              exact ht (by rw [show t = c by omega]; exact hc)
            obtain ⟨e1, e2⟩ := put_newT (l := (Z ++ L).map (wD f)) (x := D.tup (iN (f u) ++ [.int (d : Int)])) hkn
            refine wb_cons (ws_app 3 rfl (.inl rfl) rfl (we_var 6 rfl (.inl rfl) rfl rfl ⟨by rw [iN_len, sizeLine_eq]; have := List.length_append (as := Z) (bs := L); omega, ?_⟩))
            refine wb_nil (wb_nil ⟨L ++ [t], fun x => if x = t then f u ++ [d] else f x, some (.int (d : Int)), some (.int (t : Int)), ?_, ?_⟩)
            · show [some (D.ins C ns l), some (D.oK p (putKs ((Z ++ L).map kS) (kS t)) (putDs ((Z ++ L).map kS) ((Z ++ L).map (wD f)) (kS t) (D.tup (iN (f u) ++ [.int (d : Int)])))), _, some (D.ol (iN L ++ [.int (t : Int)])), _, _, _] = _
              rw [e1, e2, ← List.append_assoc, List.map_append (l₁ := Z ++ L), List.map_append (l₁ := Z ++ L) (f := wD _), wD_upd ht]
              have : [t].map (wD fun x => if x = t then f u ++ [d] else f x) = [D.tup (iN (f u) ++ [.int (d : Int)])] := by
                show [D.tup (iN (if t = t then f u ++ [d] else f t))] = _
                rw [if_pos rfl]; unfold iN; rw [List.map_append]; rfl
              rw [this]
              have : iN (L ++ [t]) = iN L ++ [.int (t : Int)] := by unfold iN; rw [List.map_append]; rfl
              rw [this]; rfl
            · rw [← List.append_assoc]
              exact bf.grow hxp hA1 hA2 hup hd hs ht
      · intro Δ' ⟨L, f, c5, c6, hI, bf⟩
        subst hI
        rw [rng_len] at bf
        have hup : (Z ++ L)[lo + pre.length]? = some u := by
          rw [List.getElem?_append_left (List.getElem?_eq_some_iff.mp hu).1]; exact hu
        exact wb_nil ⟨L, f, _, _, _, rfl, by rw [snoc_len, ← Nat.add_assoc]; exact bf.next hA1 hup⟩
    · intro Δ' ⟨L, f, c4, c5, c6, hI, bf⟩
      subst hI
      rw [iN_len, List.length_drop, show lo + (Z.length - lo) = Z.length by omega] at bf
      have hZL := bf.sz
      refine ws_freeze 3 rfl rfl ?_
      refine wb_cons (ws_set 2 rfl (.inl rfl) (wo_of_we (we_var 3 rfl (.inl rfl) rfl rfl ?_)))
      refine wb_nil ⟨_, ?_, Z ++ L, f, Z.length, some (.lst (iN L)), c4, c5, c6, ?_, bf, by rw [List.length_append]; omega, rfl⟩
      · rw [List.length_append] at hZL ⊢
        cases L with
        | nil =>
          rw [if_neg (by simp)]
          show 2 * (n - (Z.length + 0)) + 0 < m
          omega
        | cons a L =>
          rw [if_pos (by rw [List.length_cons]; omega)]
          rw [List.length_cons] at hZL ⊢
          omega
      · rw [List.drop_left]; rfl
  · rw [decide_eq_false hlt, if_neg Bool.false_ne_true]
    have : lo = Z.length := by omega
    subst this
    show WB _ _ _ _
    exact wb_cons (ws_retO 1 rfl (.inl rfl) rfl (q p Z f bf))
end
end K15
end
section
set_option Elab.async false
set_option linter.all false
set_option maxRecDepth 100000
set_option maxHeartbeats 4000000
namespace K15
open PySem PySem.Spec PyProof.Rows L2 DL
/-! JF: Behaviour's __init__. -/
theorem sorted_uniq {B : Int} : ∀ {l m : List (List Int)}, m.Perm l → l.Pairwise (fun x y => TS.code B x ≤ TS.code B y) → m.Pairwise (fun x y => TS.code B x ≤ TS.code B y) → (∀ x ∈ l, ∀ y ∈ l, TS.code B x = TS.code B y → x = y) → m = l
  | [], m, p, _, _, _ => List.Perm.eq_nil p
  | a :: l, [], p, _, _, _ => absurd p.length_eq (by simp)
  | a :: l, b :: m, p, hl, hm, hi => by
    rw [List.pairwise_cons] at hl hm
    have hb := p.mem_iff.mp (List.mem_cons_self (a := b) (l := m))
    have ha := p.mem_iff.mpr (List.mem_cons_self (a := a) (l := l))
    have h1 : TS.code B a ≤ TS.code B b := by
      rcases List.mem_cons.mp hb with e | h
      · rw [e]; exact Int.le_refl _
      · exact hl.1 b h
    have h2 : TS.code B b ≤ TS.code B a := by
      rcases List.mem_cons.mp ha with e | h
      · rw [e]; exact Int.le_refl _
      · exact hm.1 a h
    have e : b = a := hi b hb a List.mem_cons_self (Int.le_antisymm h2 h1)
    subst e
    rw [sorted_uniq p.cons_inv hl.2 hm.2 fun x hx y hy => hi x (List.mem_cons_of_mem _ hx) y (List.mem_cons_of_mem _ hy)]
theorem code_inj : ∀ {ns ms : List Int}, ns.length = ms.length → TS.Bd 64 ns → TS.Bd 64 ms → TS.code 64 ns = TS.code 64 ms → ns = ms
  | [], [], _, _, _, _ => rfl
  | a :: ns, b :: ms, hl, h1, h2, h => by
    have hl2 : ns.length = ms.length := by simpa using hl
    have e : a = b := by
      rcases Int.lt_trichotomy a b with k | k | k
      · have := TS.code_lt (B := 64) hl2 h1.tail h2.tail k; omega
      · exact k
      · have := TS.code_lt (B := 64) hl2.symm h2.tail h1.tail k; omega
    subst e
    have hc : TS.code 64 ns = TS.code 64 ms := by
      have s1 := TS.code_same (B := 64) (d := a) hl2
      have s2 := TS.code_same (B := 64) (d := a) hl2.symm
      rcases Int.lt_trichotomy (TS.code 64 ns) (TS.code 64 ms) with k | k | k
      · have := s1.mpr k; omega
      · exact k
      · have := s2.mpr k; omega
    rw [code_inj hl2 h1.tail h2.tail hc]
  | [], _ :: _, h, _, _, _ => by cases h
  | _ :: _, [], h, _, _, _ => by cases h
theorem aI_inj {a c : Ar} (h : aI a = aI c) : a = c := by
  unfold aI at h
  simp only [List.cons.injEq, and_true] at h
  ext
  · show a.1 = c.1; omega
  · show a.2.1 = c.2.1; omega
  · show a.2.2 = c.2.2; omega
theorem aI_bd {xs : List Str} {n : Nat} {A : List Ar} (h : Rw xs n A) {a : Ar} (ha : a ∈ A) : (aI a).length = 3 ∧ TS.Bd 64 (aI a) := by
  obtain ⟨h1, h2, h3⟩ := h.rg a ha
  have hx := h.x
  have hn := h.n2
  refine ⟨rfl, fun m hm => ?_⟩
  simp only [aI, List.mem_cons, List.not_mem_nil, or_false] at hm
  rcases hm with rfl | rfl | rfl <;> omega
theorem sort_A {xs : List Str} {n : Nat} {A : List Ar} (h : Rw xs n A) {m : List (List Int)} (p : m.Perm (A.map aI)) (hm : m.Pairwise fun x y => TS.code 64 x ≤ TS.code 64 y) : m = A.map aI := by
  refine sorted_uniq p ?_ hm ?_
  · rw [List.pairwise_map]; exact h.so
  · intro x hx y hy e
    obtain ⟨a, ha, rfl⟩ := List.mem_map.mp hx
    obtain ⟨c, hc, rfl⟩ := List.mem_map.mp hy
    exact code_inj rfl (aI_bd h ha).2 (aI_bd h hc).2 e
theorem aD_tI (A : List Ar) : A.map aD = (A.map aI).map tI := by rw [List.map_map]; rfl
section
variable {P : Program} {w : World} {K : PySem.W.Frag} {mg : Str → Option Value} {base : Heap} {C : Addr}
abbrev s_binit : Stmt := inClass (top 24) 0
theorem sc_binit : FnScope ["self", "deeds", "many", "arrows", "stand", "deed"] ["self", "deeds", "many", "arrows"] (defScope s_binit) := ⟨rfl, rfl, rfl, by decide +kernel, rfl, by decide +kernel, by decide +kernel⟩
theorem ok_binit {f : Addr} {fd : FuncData} (B : Bl mg) (hs : mg "sorted" = none) (BF : CFx K mg "Behaviour" C bN) (F : Fun K "__init__" "Behaviour.__init__" s_binit f fd) (d0 : Def P w K mg base 3 "need_names" spNeedNames) (d1 : Def P w K mg base 1 "is_whole" spWh) (d2 : Def P w K mg base 3 "need_leads" spNeedLeads) (d3 : Def P w K mg base 1 "found_ways" (spFoundWays C)) : FnOk P w K mg base (L2.CX P w) 4 f fd ["self", "deeds", "many", "arrows"] (liftI K C spBeh) := by
  refine init_ok F sc_binit (fun ds Q E ⟨_, _, _, e, _⟩ => by rw [e]; rfl) fun a ds Q E ⟨xs, n, A, e, hw, q⟩ => ?_
  subst e
  have hx := hw.x
  have hn := hw.n2
  have hn1 := hw.n1
  have hxp : 1 ≤ xs.length := List.length_pos_iff.mpr hw.nm.ne
  have hlen := hw.len
  refine wb_cons (ws_fld 0 rfl (.inr (.inl rfl)) rfl BF.cl.cl (BF.no _ (by simp [bN])) rfl (by decide) (we_call d0 (Nat.le_of_ble_eq_true rfl) rfl (wa_cons (we_var 1 rfl (.inl rfl) rfl rfl (wa_nil ⟨xs, rfl, hw.nm, ?_⟩)))))
  refine wb_cons (ws_if (wt_pw (ww_or (wt_not (wt_val (we_call d1 (Nat.le_of_ble_eq_true rfl) rfl (wa_cons (we_var 2 rfl (.inl rfl) rfl rfl (wa_nil ⟨_, _, rfl, rfl, _, rfl, if_f rfl ?_⟩)))))))))
  refine ww_or1 (wt_cmp (we_var 2 rfl (.inl rfl) rfl rfl (we_int (vo_lt ⟨_, rfl, if_f (decide_eq_false (by omega)) (wb_nil ?_)⟩))))
  refine wb_cons (ws_fld 0 rfl (.inr (.inl rfl)) rfl BF.cl.cl (BF.no _ (by simp [bN])) rfl (by decide) (we_var 2 rfl (.inl rfl) rfl rfl ?_))
  refine wb_cons (ws_fld 0 rfl (.inr (.inl rfl)) rfl BF.cl.cl (BF.no _ (by simp [bN])) rfl (by decide) (we_lockT (wo_call d2 (Nat.le_of_ble_eq_true rfl) rfl (wa_cons (we_of_wo (wo_callB rfl B.len boot_len (wa_cons (we_fldO 0 rfl (.inr (.inl rfl)) rfl BF.cl.cl (BF.no _ (by simp [bN])) rfl (wa_nil (vc_lenT ?_))))))))))
  rw [sL_len]
  refine wa_cons (we_var 2 rfl (.inl rfl) rfl rfl (wa_cons (we_var 3 rfl (.inl rfl) rfl rfl (wa_nil ⟨xs.length, n, A, rfl, hw.rg, hw.nd, by omega, fun q0 => ⟨q0, _, _, rfl, ?_⟩⟩))))
  refine wb_cons (ws_fld 0 rfl (.inr (.inl rfl)) rfl BF.cl.cl (BF.no _ (by simp [bN])) rfl (by decide) (we_of_wo (wo_callTy rfl B.tuple boot_tuple (wa_cons (we_of_wo (wo_callB rfl hs rfl (wa_cons (we_lc [("stand", 4), ("deed", 5)] (by dsimp only [Cf.blk]; decide +kernel) (wi_fT (we_fldO 0 rfl (.inr (.inl rfl)) rfl BF.cl.cl (BF.no _ (by simp [bN])) rfl ⟨_, _, rfl, ?_⟩))))))))))
  rw [List.map_map]
  refine ⟨by rw [List.length_map]; exact sz (by omega), fun pre acc => acc = (A.take pre.length).map aD, rfl, ?_, ?_⟩
  · intro pre x post acc hsp hle hI
    obtain ⟨c, hc, rfl⟩ := map_at hsp
    dsimp only
    rw [snoc_len, take_at hc, List.map_append, hI]
    refine wg_tup rfl (wgs_cons (wg_name 4 rfl (.inl rfl) (by decide) (wgs_cons (wg_name 5 rfl (.inl rfl) (by decide) (wgs_nil ?_)))))
    refine we_tup (wa_cons (we_var 4 rfl (.inl rfl) rfl rfl (wa_cons (we_var 5 rfl (.inl rfl) rfl rfl (wa_cons ?_)))))
    refine we_dix (we_fldO 0 rfl (.inr (.inl rfl)) rfl BF.cl.cl (BF.no _ (by simp [bN])) rfl (we_tup (wa_cons (we_var 4 rfl (.inl rfl) rfl rfl (wa_cons (we_var 5 rfl (.inl rfl) rfl rfl (wa_nil ⟨sz (Nat.le_of_ble_eq_true rfl), vA c, ?_, ?_⟩)))))))
    · have e0 := look_A (A := A) (s := c.1) (d := c.2.1)
      rw [(step_mem hw.nd).mpr (show (c.1, c.2.1, c.2.2) ∈ A from List.mem_of_getElem? hc)] at e0
      rw [show some (vA c) = _ from e0.symm]
      exact .fT rfl
    · exact wa_nil ⟨sz (Nat.le_of_ble_eq_true rfl), rfl⟩
  intro acc hle hI
  rw [List.length_map, List.take_length, aD_tI] at hI
  subst hI
  refine wa_nil (vc_sortT (d := 3) (B := 64) (by decide) (by rw [List.length_map]; exact hlen) (fun ns hns => ?_) fun m hp hm => ?_)
  · obtain ⟨c, hc, rfl⟩ := List.mem_map.mp hns
    exact aI_bd hw hc
  rw [sort_A hw hp hm, ← aD_tI]
  refine wa_nil (vc_tupL ?_)
  refine wb_cons (ws_fld 0 rfl (.inr (.inl rfl)) rfl BF.cl.cl (BF.no _ (by simp [bN])) rfl (by decide) (we_of_wo (wo_lendO 0 rfl rfl (wo_call d3 (Nat.le_of_ble_eq_true rfl) rfl (wa_cons (we_var 0 rfl (.inr (.inl rfl)) rfl rfl (wa_nil ?_)))))))
  refine ⟨_, _, xs, n, A, rfl, rfl, rfl, by omega, hxp, hn1, by omega, fun a ha => (hw.rg a ha).2, fun q1 Z f bf => ⟨tup_wD f Z, ?_⟩⟩
  have hall : ∀ s, s < n → s ∈ Z := fun s hs => by
    obtain ⟨r, hr⟩ := hw.re s hs
    exact bf.all (Nat.le_refl _) r.length rfl hr
  refine wb_cons (ws_fld 0 rfl (.inr (.inl rfl)) rfl BF.cl.cl (BF.no _ (by simp [bN])) rfl (by decide) (we_of_wo (wo_dict0 fun p => ?_)))
  refine wb_cons (ws_for [4] (wi_range1 rfl B.range (we_bin (we_of_wo (wo_callB rfl B.len boot_len (wa_cons (we_fldO 0 rfl (.inr (.inl rfl)) rfl BF.cl.cl (BF.no _ (by simp [bN])) rfl (wa_nil (vc_lenDK ?_)))))))))
  rw [List.length_map]
  have hzn := bf.sz
  refine we_int (vo_add ⟨_, rfl, by omega, ?_⟩)
  refine ⟨fun pre Δ' => ∃ c4, Δ' = [some (.oi a C bN (bF xs n A Z f)), some (.tup (sL xs)), some (.int n), some (.tup (A.map aD)), c4, none], ⟨_, rfl⟩, ?_, ?_⟩
  · intro pre y post Δ' hsp ⟨c4, hI⟩
    subst hI
    obtain ⟨rfl, hlt⟩ := rng_split hsp
    rw [Int.zero_add]
    refine wg_name 4 rfl (.inl rfl) (by decide) ?_
    refine wb_cons (ws_if (wt_pw (ww_and (wt_cmp (we_var 4 rfl (.inl rfl) rfl rfl (we_var 2 rfl (.inl rfl) rfl rfl (vo_lt ⟨_, rfl, if_b (fun h => ?_) (fun h => wb_nil (wb_nil ⟨_, rfl⟩))⟩)))))))
    have hlt2 : pre.length < n := by have := of_decide_eq_true h; omega
    refine ww_and1 (wt_dni (we_var 4 rfl (.inl rfl) rfl rfl (we_fldO 0 rfl (.inr (.inl rfl)) rfl BF.cl.cl (BF.no _ (by simp [bN])) rfl ⟨_, .dK (k := .inl (pre.length : Int)) rfl, ?_⟩)))
    rw [look_S, if_pos (hall _ hlt2)]
    exact if_f rfl (wb_nil (wb_nil ⟨_, rfl⟩))
  · intro Δ' ⟨c4, hI⟩
    subst hI
    exact wb_nil ⟨_, _, rfl, q Z f bf⟩
end
end K15
end
section
set_option Elab.async false
set_option linter.all false
set_option maxRecDepth 100000
set_option maxHeartbeats 4000000
namespace K15
open PySem PySem.Spec PyProof.Rows L2 DL
local macro_rules | `(tactic| walk_at "len") => `(tactic| simp only [rng_len, iN_len, sL_len, iL_len, List.length_map, List.length_append, List.length_cons, List.length_nil, List.length_replicate, List.length_take, List.length_drop, Int.toNat_natCast, Nat.zero_add, Nat.reduceAdd, Nat.reduceLeDiff])
local macro_rules | `(tactic| walk_at "sz") => `(tactic| first | (with_reducible assumption) | (refine' sz ?_; omega) | (refine' sz ?_; walk_at "len"; (try omega); done))
local macro_rules | `(tactic| walk_at "side") => `(tactic| first | (with_reducible assumption) | ((with_reducible show isOk _ _); first | assumption | exact isOk_bl | exact isOk_int | exact isOk_str | exact isOk_non) | (with_reducible rfl) | omega | walk_at "sz" | ((with_reducible show _ = _); rfl) | (walk_at "len"; (try omega); done))
local macro_rules | `(tactic| walk_at "ix") => `(tactic| ((try dsimp only [Cf.blk, lamC]); (with_reducible first | exact ix0 | exact ix1 | exact ix2 | exact ix3 | exact ix4 | exact ix5 | exact ix6 | exact ix7 | exact ix8 | exact ix9 | exact ix10 | exact ix11 | exact ix12 | exact ix13 | exact ix14 | exact ix15 | exact ix16 | exact ix17 | exact ix18 | exact ix19)))
local macro_rules | `(tactic| walk_at "vis") => `(tactic| first | exact .inl rfl | exact .inr (.inl rfl) | exact .inr (.inr rfl))
local macro_rules | `(tactic| walk_at "loc") => `(tactic| first | exact .inl rfl | exact .inr rfl)
local macro_rules | `(tactic| walk_at "hyp") => `(tactic| ((try dsimp only [Cf.blk, lamC]); with_reducible assumption))
local macro_rules | `(tactic| walk_at "j") => `(tactic| first | exact Nat.le_of_ble_eq_true rfl | (dsimp only [Cf.blk, lamC]; omega))
local macro_rules | `(tactic| walk_at "cl") => `(tactic| first | exact (CFx.cls (by walk_at "hyp")) | walk_at "hyp")
local macro_rules | `(tactic| walk_at "na") => `(tactic| first | exact CFx.no (by walk_at "hyp") _ (by repeat (first | exact List.Mem.head _ | apply List.Mem.tail)) | walk_at "hyp")
local macro_rules | `(tactic| walk_at "kw") => `(tactic| with_reducible first | exact boot_len | exact boot_isinstance | exact boot_all | exact boot_any | exact boot_sum | exact boot_min | exact boot_max | exact boot_sorted | exact boot_abs | exact boot_repr)
local macro_rules | `(tactic| walk_at "kty") => `(tactic| with_reducible first | exact boot_tuple | exact boot_list | exact boot_int | exact boot_str | exact boot_bool)
local macro_rules | `(tactic| walk_at "no") => `(tactic| ((try dsimp only [Cf.blk, lamC]); with_reducible first | assumption | exact Bl.isinstance (by assumption) | exact Bl.len (by assumption) | exact Bl.int (by assumption) | exact Bl.bool (by assumption) | exact Bl.str (by assumption) | exact Bl.list (by assumption) | exact Bl.tuple (by assumption) | exact Bl.range (by assumption) | exact Bl.all (by assumption) | exact Bl.any (by assumption) | exact Bl.zip (by assumption) | exact Bl.enumerate (by assumption) | exact Bl.min (by assumption)))
local macro_rules | `(tactic| walk_at "wb") => `(tactic| first
  | ((with_reducible show WB _ [] _ _); refine' wb_nil ?_; try dsimp only [List.set_cons_zero, List.set_cons_succ])
  | (refine' wb_cons ?_; walk_at "ws"))
local macro_rules | `(tactic| walk_at "ws") => `(tactic| first
  | ((with_reducible show WS _ (Stmt.If _ _ _ _) _ _); refine' ws_if ?_)
  | ((with_reducible show WS _ (Stmt.Return (some (Expr.Name _ _)) _) _ _); refine' ws_retO _ ?a ?b ?c ?h; (case a => walk_at "ix"); (case b => walk_at "vis"); (case c => exact rfl); (all_goals (try dsimp only)))
  | ((with_reducible show WS _ (Stmt.Return (some _) _) _ _); refine' ws_ret ?_)
  | ((with_reducible show WS _ (Stmt.Return none _) _ _); refine' ws_retN ?_)
  | ((with_reducible show WS _ (Stmt.Assign [Expr.Name _ _] (Expr.ListComp _ _ _ _) _) _ _); fail "a comprehension")
  | ((with_reducible show WS _ (Stmt.Assign [Expr.Name _ _] (Expr.Dict [] [] _) _) _ _); fail "a dict")
  | ((with_reducible show WS _ (Stmt.Assign [Expr.Name _ _] _ _) _ _); refine' ws_set _ ?a ?b ?h; (case a => walk_at "ix"); (case b => walk_at "loc"))
  | ((with_reducible show WS _ (Stmt.Assign [Expr.Attribute _ _ _] _ _) _ _); refine' ws_fld _ ?a ?b ?c ?d ?e ?f ?g ?h; (case a => walk_at "ix"); (case b => walk_at "vis"); (case c => exact rfl); (case d => walk_at "cl"); (case e => walk_at "na"); (case f => exact rfl); (case g => decide))
  | ((with_reducible show WS _ (Stmt.AugAssign (Expr.Name _ _) Operator.Add _ _) _ _); refine' ws_augAdd _ ?a ?b ?c ?h; (case a => walk_at "ix"); (case b => walk_at "loc"); (case c => exact rfl))
  | ((with_reducible show WS _ (Stmt.Expr (Expr.Call (Expr.Attribute (Expr.Name _ _) "append" _) _ _ _) _) _ _); refine' ws_app _ ?a ?b ?c ?h; (case a => walk_at "ix"); (case b => walk_at "vis"); (case c => exact rfl))
  | ((with_reducible show WS _ (Stmt.Expr (Expr.Call (Expr.Attribute (Expr.Name _ _) "extend" _) _ _ _) _) _ _); refine' ws_ext _ ?a ?b ?c ?h; (case a => walk_at "ix"); (case b => walk_at "vis"); (case c => exact rfl))
  | ((with_reducible show WS _ (Stmt.Expr (Expr.Constant (Const.str _) _ _) _) _ _); refine' ws_doc ?_)
  | ((with_reducible show WS _ (Stmt.Expr (Expr.Call (Expr.Name _ _) _ _ _) _) _ _); refine' ws_expr (Q := fun _ => True) ?_)
  | ((with_reducible show WS _ (Stmt.Assign [Expr.Subscript (Expr.Name _ _) _ _] _ _) _ _); first
    | (refine' ws_putT _ ?a ?b ?c ?h; (case a => walk_at "ix"); (case b => walk_at "vis"); (case c => exact rfl))
    | (refine' ws_putK _ ?a ?b ?c ?h; (case a => walk_at "ix"); (case b => walk_at "vis"); (case c => exact rfl))
    | (refine' ws_item _ ?a ?b ?c ?h; (case a => walk_at "ix"); (case b => walk_at "vis"); (case c => exact rfl)))
  | ((with_reducible show WS _ (Stmt.Raise _ _ _) _ _); refine' ws_raise ?m ?j ?g ?h (hn := ?n); (case m => walk_at "hyp"); (case n => decide); (case j => walk_at "j"); (case g => exact rfl))
  | ((with_reducible show WS _ (Stmt.Pass _) _ _); refine' ws_pass ?_)
  | ((with_reducible show WS _ (Stmt.Break _) _ _); refine' ws_break ?_)
  | ((with_reducible show WS _ (Stmt.Continue _) _ _); refine' ws_cont ?_))
local macro_rules | `(tactic| walk_at "lam") => `(tactic| first
  | (refine' we_caught 16 ?F rfl rfl (Nat.le_of_ble_eq_true rfl) rfl (by dsimp only; decide +kernel) ?h; (case F => walk_at "hyp"))
  | (refine' we_caught 15 ?F rfl rfl (Nat.le_of_ble_eq_true rfl) rfl (by dsimp only; decide +kernel) ?h; (case F => walk_at "hyp"))
  | (refine' we_caught 14 ?F rfl rfl (Nat.le_of_ble_eq_true rfl) rfl (by dsimp only; decide +kernel) ?h; (case F => walk_at "hyp"))
  | (refine' we_caught 13 ?F rfl rfl (Nat.le_of_ble_eq_true rfl) rfl (by dsimp only; decide +kernel) ?h; (case F => walk_at "hyp"))
  | (refine' we_caught 12 ?F rfl rfl (Nat.le_of_ble_eq_true rfl) rfl (by dsimp only; decide +kernel) ?h; (case F => walk_at "hyp"))
  | (refine' we_caught 11 ?F rfl rfl (Nat.le_of_ble_eq_true rfl) rfl (by dsimp only; decide +kernel) ?h; (case F => walk_at "hyp"))
  | (refine' we_caught 10 ?F rfl rfl (Nat.le_of_ble_eq_true rfl) rfl (by dsimp only; decide +kernel) ?h; (case F => walk_at "hyp"))
  | (refine' we_caught 9 ?F rfl rfl (Nat.le_of_ble_eq_true rfl) rfl (by dsimp only; decide +kernel) ?h; (case F => walk_at "hyp"))
  | (refine' we_caught 8 ?F rfl rfl (Nat.le_of_ble_eq_true rfl) rfl (by dsimp only; decide +kernel) ?h; (case F => walk_at "hyp"))
  | (refine' we_caught 7 ?F rfl rfl (Nat.le_of_ble_eq_true rfl) rfl (by dsimp only; decide +kernel) ?h; (case F => walk_at "hyp"))
  | (refine' we_caught 6 ?F rfl rfl (Nat.le_of_ble_eq_true rfl) rfl (by dsimp only; decide +kernel) ?h; (case F => walk_at "hyp"))
  | (refine' we_caught 5 ?F rfl rfl (Nat.le_of_ble_eq_true rfl) rfl (by dsimp only; decide +kernel) ?h; (case F => walk_at "hyp"))
  | (refine' we_caught 4 ?F rfl rfl (Nat.le_of_ble_eq_true rfl) rfl (by dsimp only; decide +kernel) ?h; (case F => walk_at "hyp"))
  | (refine' we_caught 3 ?F rfl rfl (Nat.le_of_ble_eq_true rfl) rfl (by dsimp only; decide +kernel) ?h; (case F => walk_at "hyp")))
local macro_rules | `(tactic| walk_at "we") => `(tactic| first
  | ((with_reducible show WE _ (Expr.Name _ _) _ _); first
    | (refine' we_var _ ?a ?b ?c ?d ?h; (case a => walk_at "ix"); (case b => walk_at "vis"); (case c => first | exact rfl | exact no_at rfl (by assumption)); (case d => first | exact rfl | assumption); (all_goals (try dsimp only)))
    | (refine' we_ty ?a ?b ?c ?h; (case c => walk_at "kty"); (case b => walk_at "no"); (case a => exact rfl); (all_goals (try dsimp only)))
    | (refine' we_cls ?a ?b ?h; (case b => first | exact (CFx.g (by walk_at "hyp")) | walk_at "hyp"); (case a => exact rfl); (all_goals (try dsimp only))))
  | ((with_reducible show WE _ (Expr.Constant _ _ _) _ _); first | refine' we_int ?_ | refine' we_str ?_ | refine' we_bl ?_ | refine' we_non ?_)
  | ((with_reducible show WE _ (Expr.Tuple _ _ _) _ _); refine' we_tup ?_)
  | ((with_reducible show WE _ (Expr.List _ _) _ _); refine' we_lst ?_)
  | ((with_reducible show WE _ (Expr.BinOp _ _ _ _) _ _); refine' we_bin ?_)
  | ((with_reducible show WE _ (Expr.UnaryOp UnaryOp.USub _ _) _ _); refine' we_neg ?_)
  | ((with_reducible show WE _ (Expr.UnaryOp UnaryOp.Not _ _) _ _); refine' we_not ?_)
  | ((with_reducible show WE _ (Expr.BoolOp _ [_] _) _ _); refine' we_one ?_)
  | ((with_reducible show WE _ (Expr.BoolOp BoolOp.And _ _) _ _); refine' we_and ?_)
  | ((with_reducible show WE _ (Expr.BoolOp BoolOp.Or _ _) _ _); refine' we_or ?_)
  | ((with_reducible show WE _ (Expr.Compare _ [_] _ _) _ _); refine' we_cmp ?_)
  | ((with_reducible show WE _ (Expr.Compare _ [_, _] _ _) _ _); refine' we_chain ?_)
  | ((with_reducible show WE _ (Expr.IfExp _ _ _ _) _ _); refine' we_if ?_)
  | ((with_reducible show WE _ (Expr.Subscript _ (Expr.Slice _ _ _ _) _) _ _); refine' we_slice ?_)
  | ((with_reducible show WE _ (Expr.Subscript (Expr.Name _ _) _ _) _ _); first
    | (refine' we_oix (d0 := .oK _ _ _) _ ?a ?b ?c rfl ?h; (case a => walk_at "ix"); (case b => walk_at "vis"); (case c => exact rfl))
    | (refine' we_oix (d0 := .oT _ _ _) _ ?a ?b ?c rfl ?h; (case a => walk_at "ix"); (case b => walk_at "vis"); (case c => exact rfl))
    | (refine' we_olx _ ?a ?b ?c ?h; (case a => walk_at "ix"); (case b => walk_at "vis"); (case c => exact rfl))
    | refine' we_ix ?_)
  | ((with_reducible show WE _ (Expr.Subscript _ _ _) _ _); refine' we_ix ?_)
  | ((with_reducible show WE _ (Expr.Attribute (Expr.Name _ _) _ _) _ _); refine' we_fldO _ ?a ?b ?c ?d ?e ?f ?h; (case a => walk_at "ix"); (case b => walk_at "vis"); (case c => exact rfl); (case d => walk_at "cl"); (case e => walk_at "na"); (case f => exact rfl); (all_goals (try dsimp only)))
  | ((with_reducible show WE _ (Expr.Attribute _ _ _) _ _); refine' we_fld ?_)
  | ((with_reducible show WE _ (Expr.Call (Expr.Attribute _ "get" _) _ _ _) _ _); refine' we_dget1 ?_)
  | ((with_reducible show WE _ (Expr.Call (Expr.Attribute _ "join" _) _ _ _) _ _); refine' we_join ?_)
  | ((with_reducible show WE _ (Expr.Call (Expr.Name "len" _) [Expr.Name _ _] _ _) _ _); first
    | (refine' we_olen _ ?g ?m boot_len ?a ?b ?c ?_; (case a => walk_at "ix"); (case b => walk_at "vis"); (case c => exact rfl); (case m => walk_at "no"); (case g => exact rfl); (all_goals (try dsimp only)))
    | (refine' we_lenK _ ?g ?m boot_len ?a ?b ?c ?_; (case a => walk_at "ix"); (case b => walk_at "vis"); (case c => exact rfl); (case m => walk_at "no"); (case g => exact rfl); (all_goals (try dsimp only))))
  | ((with_reducible show WE _ (Expr.Call (Expr.Name _ _) [Expr.Lambda _ _ _ _] _ _) _ _); walk_at "lam")
  | ((with_reducible show WE _ (Expr.Call (Expr.Name _ _) _ _ _) _ _); first
    | (refine' we_call ?F ?hj ?hg ?h; (case F => walk_at "hyp"); (case hj => walk_at "j"); (case hg => exact rfl))
    | (refine' we_callT ?F ?hl ?hj ?hg ?h; (case F => walk_at "hyp"); (case hl => exact rfl); (case hj => walk_at "j"); (case hg => exact rfl))
    | (refine' we_make ?F ?hj ?hg ?h; (case F => walk_at "hyp"); (case hj => walk_at "j"); (case hg => exact rfl))
    | (refine' we_of_wo (wo_callB ?a ?b ?c ?h); (case c => walk_at "kw"); (case b => walk_at "no"); (case a => exact rfl))
    | (refine' we_of_wo (wo_callTy ?a ?b ?c ?h); (case c => walk_at "kty"); (case b => walk_at "no"); (case a => exact rfl))))
local macro_rules | `(tactic| walk_at "wo") => `(tactic| first
  | ((with_reducible show WO _ (Expr.Tuple _ _ _) _ _); refine' wo_tup ?_)
  | ((with_reducible show WO _ (Expr.List _ _) _ _); refine' wo_lst ?_)
  | ((with_reducible show WO _ (Expr.BinOp _ _ _ _) _ _); refine' wo_bin ?_)
  | ((with_reducible show WO _ (Expr.IfExp _ _ _ _) _ _); refine' wo_if ?_)
  | ((with_reducible show WO _ (Expr.Subscript _ (Expr.Slice _ _ _ _) _) _ _); refine' wo_slice ?_)
  | ((with_reducible show WO _ (Expr.Call (Expr.Name _ _) _ _ _) _ _); first
    | (refine' wo_call ?F ?hj ?hg ?h; (case F => walk_at "hyp"); (case hj => walk_at "j"); (case hg => exact rfl))
    | (refine' wo_callT ?F ?hl ?hj ?hg ?h; (case F => walk_at "hyp"); (case hl => exact rfl); (case hj => walk_at "j"); (case hg => exact rfl))
    | (refine' wo_make ?F ?hj ?hg ?h; (case F => walk_at "hyp"); (case hj => walk_at "j"); (case hg => exact rfl))
    | (refine' wo_callB ?a ?b ?c ?h; (case c => walk_at "kw"); (case b => walk_at "no"); (case a => exact rfl))
    | (refine' wo_callTy ?a ?b ?c ?h; (case c => walk_at "kty"); (case b => walk_at "no"); (case a => exact rfl)))
  | ((with_reducible show WO _ (Expr.ListComp _ _ _ _) _ _); fail "a comprehension")
  | ((with_reducible show WO _ (Expr.Dict _ _ _) _ _); fail "a dict")
  | refine' wo_of_we ?_)
local macro_rules | `(tactic| walk_at "wt") => `(tactic| first
  | ((with_reducible show WT _ (Expr.Compare _ [_] [Expr.Name _ _] _) _ _); first
    | (refine' wt_oin (d0 := .oK _ _ _) _ ?a ?b ?c rfl ?h; (case a => walk_at "ix"); (case b => walk_at "vis"); (case c => exact rfl))
    | (refine' wt_oin (d0 := .oT _ _ _) _ ?a ?b ?c rfl ?h; (case a => walk_at "ix"); (case b => walk_at "vis"); (case c => exact rfl))
    | (refine' wt_oni (d0 := .oK _ _ _) _ ?a ?b ?c rfl ?h; (case a => walk_at "ix"); (case b => walk_at "vis"); (case c => exact rfl))
    | (refine' wt_oni (d0 := .oT _ _ _) _ ?a ?b ?c rfl ?h; (case a => walk_at "ix"); (case b => walk_at "vis"); (case c => exact rfl))
    | refine' wt_cmp ?_)
  | ((with_reducible show WT _ (Expr.Compare _ [_] _ _) _ _); refine' wt_cmp ?_)
  | ((with_reducible show WT _ (Expr.Compare _ [_, _] _ _) _ _); refine' wt_chain ?_)
  | ((with_reducible show WT _ (Expr.BoolOp _ _ _) _ _); refine' wt_pw ?_)
  | ((with_reducible show WT _ (Expr.UnaryOp UnaryOp.Not _ _) _ _); refine' wt_not ?_)
  | ((with_reducible show WT _ (Expr.Name _ _) _ _); refine' wt_truth ?_)
  | ((with_reducible show WT _ (Expr.Call _ _ _ _) _ _); refine' wt_truth ?_)
  | ((with_reducible show WT _ (Expr.Subscript _ _ _) _ _); refine' wt_truth ?_)
  | ((with_reducible show WT _ (Expr.Attribute _ _ _) _ _); refine' wt_truth ?_))
local macro_rules | `(tactic| walk_at "ww") => `(tactic| first
  | ((with_reducible show WW _ (Expr.BoolOp BoolOp.And [_] _) _ _); refine' ww_and1 ?_)
  | ((with_reducible show WW _ (Expr.BoolOp BoolOp.Or [_] _) _ _); refine' ww_or1 ?_)
  | ((with_reducible show WW _ (Expr.BoolOp BoolOp.And _ _) _ _); refine' ww_and ?_)
  | ((with_reducible show WW _ (Expr.BoolOp BoolOp.Or _ _) _ _); refine' ww_or ?_))
local macro_rules | `(tactic| walk_at "wa") => `(tactic| first
  | ((with_reducible show WA _ [] _ _); refine' wa_nil ?_; try dsimp only)
  | ((with_reducible show WA _ (Expr.Starred _ _ :: _) _ _); refine' wa_star ?_)
  | refine' wa_cons ?_)
local macro_rules | `(tactic| walk_at "wop") => `(tactic| first
  | ((with_reducible show WOp _ none _ _); unfold WOp; try dsimp only)
  | ((with_reducible show WOp _ (some _) _ _); unfold WOp))
local macro_rules | `(tactic| walk_at "wg") => `(tactic| first
  | ((with_reducible show WG _ _ (Expr.Name _ _) _ _ _); refine' wg_name _ ?a ?b ?c ?h; (case a => walk_at "ix"); (case b => walk_at "loc"); (case c => decide); (all_goals (try dsimp only [List.set_cons_zero, List.set_cons_succ, wipeD, List.map_cons, List.map_nil])))
  | ((with_reducible show WG _ _ (Expr.Tuple _ _ _) _ _ _); refine' wg_tup rfl ?_)
  | ((with_reducible show WGs _ _ [] _ _ _); refine' wgs_nil ?_; (try dsimp only [List.set_cons_zero, List.set_cons_succ, wipeD, List.map_cons, List.map_nil]))
  | ((with_reducible show WGs _ _ (_ :: _) _ _ _); refine' wgs_cons ?_))
local macro_rules | `(tactic| walk_at "vo") => `(tactic| first
  | ((with_reducible show VO _ (binaryOp Operator.Add) _ _ _); first | refine vo_add ?_ | refine vo_catT ?_ ?_ | refine vo_catL ?_ ?_ | refine vo_addS ?_ ?_)
  | ((with_reducible show VO _ (binaryOp Operator.Sub) _ _ _); refine vo_sub ?_)
  | ((with_reducible show VO _ (binaryOp Operator.Mult) _ _ _); refine vo_mul ?_ ?_)
  | ((with_reducible show VO _ (compareOp CmpOp.Lt) _ _ _); refine vo_lt ?_)
  | ((with_reducible show VO _ (compareOp CmpOp.LtE) _ _ _); refine vo_le ?_)
  | ((with_reducible show VO _ (compareOp CmpOp.Gt) _ _ _); refine vo_gt ?_)
  | ((with_reducible show VO _ (compareOp CmpOp.GtE) _ _ _); refine vo_ge ?_)
  | ((with_reducible show VO _ (compareOp CmpOp.Eq) _ _ _); first | refine vo_eqi ?_ | refine vo_eqS ?_)
  | ((with_reducible show VO _ (compareOp CmpOp.NotEq) _ _ _); first | refine vo_nei ?_ | refine vo_neS ?_)
  | ((with_reducible show VO _ (compareOp CmpOp.In) _ _ _); first | refine' vo_din (DkAt.fT rfl) ?_ | refine' vo_din (DkAt.dK rfl) ?_ | refine' vo_din (DkAt.fK rfl) ?_ | refine' vo_din (DkAt.dT rfl) ?_ | refine' vo_inS Sq.tup ?_ | refine' vo_inS Sq.lst ?_)
  | ((with_reducible show VO _ (compareOp CmpOp.NotIn) _ _ _); first | refine' vo_dni (DkAt.fT rfl) ?_ | refine' vo_dni (DkAt.dK rfl) ?_ | refine' vo_dni (DkAt.fK rfl) ?_ | refine' vo_dni (DkAt.dT rfl) ?_ | refine' vo_niS Sq.tup ?_ | refine' vo_niS Sq.lst ?_)
  | ((with_reducible show VO _ (compareOp CmpOp.Is) _ _ _); first | refine vo_isN ?_ | refine vo_isB ?_)
  | ((with_reducible show VO _ (compareOp CmpOp.IsNot) _ _ _); first | refine vo_notN ?_ | refine vo_nisB ?_))
local macro_rules | `(tactic| walk_at "vc") => `(tactic| first
  | ((with_reducible show VC _ (Value.builtin "len") _ _); first | refine vc_lenL ?_ | refine vc_lenT ?_ | refine vc_lenS ?_ ?_ | refine vc_lenA ?_ | refine vc_lenScr ?_ | refine vc_lenDK ?_ | (refine' vc_lenQ ?h ?_; (case h => assumption)))
  | ((with_reducible show VC _ (Value.builtin "isinstance") _ _); first
    | refine vc_isi (k := true) rfl (by decide +kernel) ?_ | refine vc_isi (k := false) rfl (by decide +kernel) ?_
    | refine vc_isiT ["list", "tuple"] (k := true) rfl (by decide +kernel) ?_ | refine vc_isiT ["list", "tuple"] (k := false) rfl (by decide +kernel) ?_
    | refine vc_isiI (CFx.cl (by walk_at "hyp")) (CFx.isC (by walk_at "hyp")) ?_)
  | ((with_reducible show VC _ (Value.type "tuple") _ _); first | refine' vc_tupL ?_ | refine' vc_tupT ?_ | (refine' vc_tupS ?h ?_; (case h => assumption)))
  | ((with_reducible show VC _ (Value.type "list") _ _); first | refine vc_lstL ?_ | refine vc_lstT ?_ | refine vc_lstScr ?_ | (refine' vc_lstQ ?h ?_; (case h => assumption)))
  | ((with_reducible show VC _ (Value.type "int") _ _); first | refine vc_int ?_ | refine vc_intB ?_)
  | ((with_reducible show VC _ (Value.type "str") _ _); first | refine vc_strS ?_)
  | ((with_reducible show VC _ (Value.builtin "all") _ _); refine' vc_all ?_)
  | ((with_reducible show VC _ (Value.builtin "any") _ _); refine' vc_any ?_)
  | ((with_reducible show VC _ (Value.builtin "sum") _ _); refine' vc_sum ?_)
  | ((with_reducible show VC _ (Value.builtin "min") _ _); refine' vc_min ?_)
  | ((with_reducible show VC _ (Value.builtin "max") _ _); refine' vc_max ?_))
local macro_rules | `(tactic| walk_at "w1") => `(tactic| first
  | ((with_reducible show WE _ _ _ _); walk_at "we")
  | ((with_reducible show WA _ _ _ _); walk_at "wa")
  | ((with_reducible show WO _ _ _ _); walk_at "wo")
  | ((with_reducible show WT _ _ _ _); walk_at "wt")
  | ((with_reducible show WW _ _ _ _); walk_at "ww")
  | ((with_reducible show WB _ _ _ _); walk_at "wb")
  | ((with_reducible show WS _ _ _ _); walk_at "ws")
  | ((with_reducible show WG _ _ _ _ _ _); walk_at "wg")
  | ((with_reducible show WGs _ _ _ _ _ _); walk_at "wg")
  | ((with_reducible show WOp _ _ _ _); walk_at "wop")
  | ((with_reducible show WTs _ _ _ _); unfold WTs; try dsimp only)
  | ((with_reducible show VO _ _ _ _ _); walk_at "vo")
  | ((with_reducible show VC _ _ _ _); walk_at "vc")
  | ((with_reducible show _ ≤ sizeLine); walk_at "sz")
  | ((with_reducible show VI _ _ _ _); first | (refine' vi_tup ?h ?_; (case h => exact rfl)) | (refine' vi_lst ?h ?_; (case h => exact rfl)) | (refine' vi_lsA ?h ?_; (case h => exact rfl)) | (refine' vi_dict ?h ?_; (case h => exact DkAt.dK rfl)) | (refine' vi_dict ?h ?_; (case h => exact DkAt.fT rfl)))
  | ((with_reducible show VS _ _ _ _ _); first | refine' vs_tup ?_ | refine' vs_lst ?_)
  | ((with_reducible show IsSeq _ _ ∧ _); first | refine' And.intro (Or.inl rfl) ?_ | refine' And.intro (Or.inr rfl) ?_ | (refine' And.intro ?p ?_; (case p => assumption)))
  | ((with_reducible show _ ∧ _); refine' And.intro ?p ?_; (case p => walk_at "side"))
  | ((with_reducible show ∃ _, DkAt _ _ _ ∧ _); first | refine' ⟨_, DkAt.fT rfl, ?_⟩ | refine' ⟨_, DkAt.dK rfl, ?_⟩ | refine' ⟨_, DkAt.fK rfl, ?_⟩ | refine' ⟨_, DkAt.dT rfl, ?_⟩)
  | ((with_reducible show ∃ _, OkAt _ _ _ ∧ _); first | refine' ⟨_, OkAt.oT rfl, ?_⟩ | refine' ⟨_, OkAt.oK rfl, ?_⟩)
  | ((with_reducible show ∃ _, Its _ _ ∧ _); first | refine' ⟨_, Its.lst, ?_⟩ | refine' ⟨_, Its.tup, ?_⟩ | refine' ⟨_, Its.lsA, ?_⟩ | refine' ⟨_, Its.scr, ?_⟩ | (refine' ⟨_, Its.seq ?h, ?_⟩; (case h => assumption)))
  | ((with_reducible show if _ = true then _ else _); first | (refine if_t rfl ?_; try dsimp only) | (refine if_f rfl ?_; try dsimp only))
  | (refine' ⟨_, _, _, _, rfl, ?cl, ?na, ?lk, ?_⟩; (case cl => walk_at "cl"); (case na => walk_at "na"); (case lk => first | exact rfl | assumption); (all_goals (try dsimp only)))
  | ((with_reducible show WI _ _ _ _ _); walk_at "wi")
  | ((with_reducible show ∃ _, (_ : D) = _ ∧ _); refine' ⟨_, rfl, ?_⟩)
  | ((with_reducible show ∃ _, (_ : Option Bool) = some _ ∧ _); refine' ⟨_, rfl, ?_⟩)
  | ((with_reducible show ∃ _, atI _ _ = some _ ∧ _); refine' ⟨_, rfl, ?_⟩)
  | ((with_reducible show ∃ (_ : D) (_ : D), (_ : D) = _ ∧ _); refine' ⟨_, _, rfl, ?_⟩)
  | ((with_reducible show ∃ _, (_ : List D) = _ ∧ _); refine' ⟨_, rfl, ?_⟩)
  | ((with_reducible show ∃ _ _, (_ : List D) = _ ∧ _); refine' ⟨_, _, rfl, ?_⟩)
  | (with_reducible exact Bool.not_true)
  | (with_reducible exact (rfl : false = false))
  | walk_at "own"
  | ((fail_if_success (with_reducible show ∃ _, _)); walk_at "sp"))
local macro_rules | `(tactic| walk_at "wi") => `(tactic| first
  | ((with_reducible show WI _ _ (Expr.Call (Expr.Name "range" _) [_] _ _) _ _); refine' wi_range1 ?a ?b ?_; (case b => walk_at "no"); (case a => exact rfl))
  | ((with_reducible show WI _ _ (Expr.Call (Expr.Name "range" _) [_, _] _ _) _ _); refine' wi_range2 ?a ?b ?_; (case b => walk_at "no"); (case a => exact rfl))
  | ((with_reducible show WI _ _ (Expr.Call (Expr.Name "zip" _) _ _ _) _ _); refine' wi_zipX ?a ?b ?_; (case b => walk_at "no"); (case a => exact rfl))
  | ((with_reducible show WI _ _ (Expr.Call (Expr.Name "enumerate" _) _ _ _) _ _); refine' wi_enumT ?a ?b ?_; (case b => walk_at "no"); (case a => exact rfl))
  | refine' wi_its ?_)
local macro_rules | `(tactic| walk_at "own") => `(tactic| fail "no own step")
local macro_rules | `(tactic| walk_at "sp") => `(tactic| first | refine' Exists.intro _ (And.intro rfl ?_) | refine' Exists.intro _ (Exists.intro _ (And.intro rfl ?_)) | refine' Exists.intro _ (Exists.intro _ (Exists.intro _ (And.intro rfl ?_))) | refine' Exists.intro _ (Exists.intro _ (Exists.intro _ (Exists.intro _ (And.intro rfl ?_)))) | refine' Exists.intro _ (Exists.intro _ (Exists.intro _ (Exists.intro _ (Exists.intro _ (And.intro rfl ?_))))) | refine' Exists.intro _ (Exists.intro _ (Exists.intro _ (Exists.intro _ (Exists.intro _ (Exists.intro _ (And.intro rfl ?_)))))) | refine' Exists.intro _ (Exists.intro _ (Exists.intro _ (Exists.intro _ (Exists.intro _ (Exists.intro _ (Exists.intro _ (And.intro rfl ?_))))))) | refine' Exists.intro _ (Exists.intro _ (Exists.intro _ (Exists.intro _ (Exists.intro _ (Exists.intro _ (Exists.intro _ (Exists.intro _ (And.intro rfl ?_)))))))) | refine' Exists.intro _ (Exists.intro _ (Exists.intro _ (Exists.intro _ (Exists.intro _ (Exists.intro _ (Exists.intro _ (Exists.intro _ (Exists.intro _ (And.intro rfl ?_))))))))))
local macro_rules | `(tactic| walk_at "w") => `(tactic| repeat' (w_strict (walk_at "w1")))
local macro_rules | `(tactic| walk_at "till if") => `(tactic| repeat' ((fail_if_success (with_reducible show WB _ (Stmt.If _ _ _ _ :: _) _ _)); w_strict (walk_at "w1")))
/-! JG: questions about a behaviour. -/
abbrev behD (C : Addr) (xs : List Str) (n : Nat) (A : List Ar) (Z : List Nat) (f : Nat → List Nat) : D := .ins C bN (bF xs n A Z f)
theorem itB_own {d : D} {k : Bool} (h : itB d = some k) : d.own = false := by cases d <;> first | rfl | cases h
theorem idx_int {m : Int} {d : D} (h : idxB m d = true) : ∃ i : Int, d = .int i ∧ 0 ≤ i ∧ i < m := by
  cases d with
  | int i => exact ⟨i, rfl, of_decide_eq_true h⟩
  | _ => cases h
theorem idx_of {n m : Nat} (h : n < m) : idxB m (.int (n : Int)) = true := decide_eq_true ⟨by omega, by omega⟩
section
variable {P : Program} {w : World} {K : PySem.W.Frag} {mg : Str → Option Value} {base : Heap} {C : Addr}
def spNeedStand (C NS : Addr) : DSp := fun ds Q E => ∃ xs n A Z f d k, ds = [behD C xs n A Z f, d] ∧ itB d = some k ∧ (idxB n d = true → Q .non) ∧ (idxB n d = false → E ⟨NS, ["stand"], [d]⟩)
abbrev s_needStand : Stmt := top 27
theorem sc_needStand : FnScope ["behaviour", "stand"] ["behaviour", "stand"] (defScope s_needStand) := ⟨rfl, rfl, rfl, by decide +kernel, rfl, by decide +kernel, by decide +kernel⟩
theorem ok_needStand {NS f : Addr} {fd : FuncData} (B : Bl mg) (BF : CFx K mg "Behaviour" C bN) (M : XMk P w K mg base "NoStand" NS ["stand"]) (F : Fun K "need_stand" "need_stand" s_needStand f fd) (d0 : Def P w K mg base 2 "is_index" spIndex) : FnOk P w K mg base (L2.CX P w) 4 f fd ["behaviour", "stand"] (lift K (spNeedStand C NS)) := by
  refine def_ok F sc_needStand (fun ds Q E ⟨_, _, _, _, _, _, _, e, _⟩ => by rw [e]; rfl) fun ds Q E ⟨xs, n, A, Z, f, d, k, e, hk, q1, q2⟩ => ?_
  subst e
  have no := itB_own hk
  walk_at "w"
  refine if_b (fun h => ?_) (fun h => ?_)
  · walk_at "w"
    exact q2 (by simpa using h)
  · walk_at "w"
    exact q1 (by simpa using h)
theorem iN_append (r q : List Nat) : iN (r ++ q) = iN r ++ iN q := List.map_append ..
def oI : Option Nat → D
  | some t => .int (t : Int)
  | none => .non
theorem get_A {A : List Ar} {s d : Nat} : (lookD (A.map kA) (A.map vA) ([.inl (s : Int), .inl (d : Int)] : List Key)).getD .non = oI (step A s d) := by
  rw [look_A]; cases step A s d <;> rfl
theorem in_A {A : List Ar} {s d : Nat} : (lookD (A.map kA) (A.map vA) ([.inl (s : Int), .inl (d : Int)] : List Key)).isSome = (step A s d).isSome := by
  rw [look_A]; cases step A s d <;> rfl
theorem idx_nat1 {m : Nat} {d : D} (h : idxB m d = true) : ∃ i : Nat, d = .int (i : Int) ∧ i < m := by
  obtain ⟨i, rfl, h0, h1⟩ := idx_int h
  obtain ⟨k, rfl⟩ := Int.eq_ofNat_of_zero_le h0
  exact ⟨k, rfl, by omega⟩
def spDeedsAt (C NS : Addr) : DSp := fun ds Q E => ∃ xs n A Z f s k, ds = [behD C xs n A Z f, s] ∧ itB s = some k ∧ xs.length ≤ 1000 ∧ (idxB n s = false → E ⟨NS, ["stand"], [s]⟩) ∧ (∀ s' : Nat, s = .int s' → s' < n → Q (.tup (iN ((List.range xs.length).filter fun d => (step A s' d).isSome))))
abbrev s_deedsAt : Stmt := top 28
theorem sc_deedsAt : FnScope ["behaviour", "stand", "deed"] ["behaviour", "stand"] (defScope s_deedsAt) := ⟨rfl, rfl, rfl, by decide +kernel, rfl, by decide +kernel, by decide +kernel⟩
theorem rng_take {n i : Nat} (h : i < n) : (List.range n).take (i + 1) = (List.range n).take i ++ [i] := take_at (by rw [List.getElem?_range h])
theorem ok_deedsAt {NS f : Addr} {fd : FuncData} (B : Bl mg) (BF : CFx K mg "Behaviour" C bN) (F : Fun K "deeds_at" "deeds_at" s_deedsAt f fd) (d0 : Def P w K mg base 4 "need_stand" (spNeedStand C NS)) : FnOk P w K mg base (L2.CX P w) 5 f fd ["behaviour", "stand"] (lift K (spDeedsAt C NS)) := by
  refine def_ok F sc_deedsAt (fun ds Q E ⟨_, _, _, _, _, _, _, e, _⟩ => by rw [e]; rfl) fun ds Q E ⟨xs, n, A, Z, f, s, k, e, hk, hx, q1, q2⟩ => ?_
  subst e
  have no := itB_own hk
  walk_at "w"
  refine ⟨fun h => ?_, fun h => q1 h⟩
  obtain ⟨s, rfl, hs⟩ := idx_nat1 h
  walk_at "w"
  refine we_lc [("deed", 2)] (by dsimp only [Cf.blk]; decide +kernel) ?_
  walk_at "w"
  rw [sL_len, Int.toNat_natCast]
  refine ⟨fun pre acc => acc = iN (((List.range xs.length).take pre.length).filter fun d => (step A s d).isSome), rfl, ?_, ?_⟩
  · intro pre x post acc hsp hle hI
    obtain ⟨rfl, hlt⟩ := rng_split hsp
    rw [Int.zero_add]
    walk_at "w"
    rw [in_A, snoc_len, rng_take hlt, List.filter_append, iN_append]
    cases hs2 : (step A s pre.length).isSome with
    | true =>
      walk_at "w"
      subst hI
      rw [List.filter_cons_of_pos (by exact hs2)]; rfl
    | false =>
      refine if_f rfl ?_
      subst hI
      rw [List.filter_cons_of_neg (by rw [hs2]; exact Bool.false_ne_true)]
      exact (List.append_nil _).symm
  · intro acc hle hI
    rw [rng_len, List.take_of_length_le (by rw [List.length_range]; exact Nat.le_refl _)] at hI
    subst hI
    walk_at "w"
    exact q2 s rfl hs
theorem iN_last (T : List Nat) (s : Nat) : atI (iN (T ++ [s])) (-1) = some (.int (s : Int)) := by rw [iN_append]; exact atI_last (iN T) _
end
end K15
end
section
set_option Elab.async false
set_option linter.all false
set_option maxRecDepth 100000
set_option maxHeartbeats 4000000
namespace K15
open PySem PySem.Spec PyProof.Rows L2 DL
local macro_rules | `(tactic| walk_at "len") => `(tactic| simp only [rng_len, iN_len, sL_len, iL_len, List.length_map, List.length_append, List.length_cons, List.length_nil, List.length_replicate, List.length_take, List.length_drop, Int.toNat_natCast, Nat.zero_add, Nat.reduceAdd, Nat.reduceLeDiff])
local macro_rules | `(tactic| walk_at "sz") => `(tactic| first | (with_reducible assumption) | (refine' sz ?_; omega) | (refine' sz ?_; walk_at "len"; (try omega); done))
local macro_rules | `(tactic| walk_at "side") => `(tactic| first | (with_reducible assumption) | ((with_reducible show isOk _ _); first | assumption | exact isOk_bl | exact isOk_int | exact isOk_str | exact isOk_non) | (with_reducible rfl) | omega | walk_at "sz" | ((with_reducible show _ = _); rfl) | (walk_at "len"; (try omega); done))
local macro_rules | `(tactic| walk_at "ix") => `(tactic| ((try dsimp only [Cf.blk, lamC]); (with_reducible first | exact ix0 | exact ix1 | exact ix2 | exact ix3 | exact ix4 | exact ix5 | exact ix6 | exact ix7 | exact ix8 | exact ix9 | exact ix10 | exact ix11 | exact ix12 | exact ix13 | exact ix14 | exact ix15 | exact ix16 | exact ix17 | exact ix18 | exact ix19)))
local macro_rules | `(tactic| walk_at "vis") => `(tactic| first | exact .inl rfl | exact .inr (.inl rfl) | exact .inr (.inr rfl))
local macro_rules | `(tactic| walk_at "loc") => `(tactic| first | exact .inl rfl | exact .inr rfl)
local macro_rules | `(tactic| walk_at "hyp") => `(tactic| ((try dsimp only [Cf.blk, lamC]); with_reducible assumption))
local macro_rules | `(tactic| walk_at "j") => `(tactic| first | exact Nat.le_of_ble_eq_true rfl | (dsimp only [Cf.blk, lamC]; omega))
local macro_rules | `(tactic| walk_at "cl") => `(tactic| first | exact (CFx.cls (by walk_at "hyp")) | walk_at "hyp")
local macro_rules | `(tactic| walk_at "na") => `(tactic| first | exact CFx.no (by walk_at "hyp") _ (by repeat (first | exact List.Mem.head _ | apply List.Mem.tail)) | walk_at "hyp")
local macro_rules | `(tactic| walk_at "kw") => `(tactic| with_reducible first | exact boot_len | exact boot_isinstance | exact boot_all | exact boot_any | exact boot_sum | exact boot_min | exact boot_max | exact boot_sorted | exact boot_abs | exact boot_repr)
local macro_rules | `(tactic| walk_at "kty") => `(tactic| with_reducible first | exact boot_tuple | exact boot_list | exact boot_int | exact boot_str | exact boot_bool)
local macro_rules | `(tactic| walk_at "no") => `(tactic| ((try dsimp only [Cf.blk, lamC]); with_reducible first | assumption | exact Bl.isinstance (by assumption) | exact Bl.len (by assumption) | exact Bl.int (by assumption) | exact Bl.bool (by assumption) | exact Bl.str (by assumption) | exact Bl.list (by assumption) | exact Bl.tuple (by assumption) | exact Bl.range (by assumption) | exact Bl.all (by assumption) | exact Bl.any (by assumption) | exact Bl.zip (by assumption) | exact Bl.enumerate (by assumption) | exact Bl.min (by assumption)))
local macro_rules | `(tactic| walk_at "wb") => `(tactic| first
  | ((with_reducible show WB _ [] _ _); refine' wb_nil ?_; try dsimp only [List.set_cons_zero, List.set_cons_succ])
  | (refine' wb_cons ?_; walk_at "ws"))
local macro_rules | `(tactic| walk_at "ws") => `(tactic| first
  | ((with_reducible show WS _ (Stmt.If _ _ _ _) _ _); refine' ws_if ?_)
  | ((with_reducible show WS _ (Stmt.Return (some (Expr.Name _ _)) _) _ _); refine' ws_retO _ ?a ?b ?c ?h; (case a => walk_at "ix"); (case b => walk_at "vis"); (case c => exact rfl); (all_goals (try dsimp only)))
  | ((with_reducible show WS _ (Stmt.Return (some _) _) _ _); refine' ws_ret ?_)
  | ((with_reducible show WS _ (Stmt.Return none _) _ _); refine' ws_retN ?_)
  | ((with_reducible show WS _ (Stmt.Assign [Expr.Name _ _] (Expr.ListComp _ _ _ _) _) _ _); fail "a comprehension")
  | ((with_reducible show WS _ (Stmt.Assign [Expr.Name _ _] (Expr.Dict [] [] _) _) _ _); fail "a dict")
  | ((with_reducible show WS _ (Stmt.Assign [Expr.Name _ _] _ _) _ _); refine' ws_set _ ?a ?b ?h; (case a => walk_at "ix"); (case b => walk_at "loc"))
  | ((with_reducible show WS _ (Stmt.Assign [Expr.Attribute _ _ _] _ _) _ _); refine' ws_fld _ ?a ?b ?c ?d ?e ?f ?g ?h; (case a => walk_at "ix"); (case b => walk_at "vis"); (case c => exact rfl); (case d => walk_at "cl"); (case e => walk_at "na"); (case f => exact rfl); (case g => decide))
  | ((with_reducible show WS _ (Stmt.AugAssign (Expr.Name _ _) Operator.Add _ _) _ _); refine' ws_augAdd _ ?a ?b ?c ?h; (case a => walk_at "ix"); (case b => walk_at "loc"); (case c => exact rfl))
  | ((with_reducible show WS _ (Stmt.Expr (Expr.Call (Expr.Attribute (Expr.Name _ _) "append" _) _ _ _) _) _ _); refine' ws_app _ ?a ?b ?c ?h; (case a => walk_at "ix"); (case b => walk_at "vis"); (case c => exact rfl))
  | ((with_reducible show WS _ (Stmt.Expr (Expr.Call (Expr.Attribute (Expr.Name _ _) "extend" _) _ _ _) _) _ _); refine' ws_ext _ ?a ?b ?c ?h; (case a => walk_at "ix"); (case b => walk_at "vis"); (case c => exact rfl))
  | ((with_reducible show WS _ (Stmt.Expr (Expr.Constant (Const.str _) _ _) _) _ _); refine' ws_doc ?_)
  | ((with_reducible show WS _ (Stmt.Expr (Expr.Call (Expr.Name _ _) _ _ _) _) _ _); refine' ws_expr (Q := fun _ => True) ?_)
  | ((with_reducible show WS _ (Stmt.Assign [Expr.Subscript (Expr.Name _ _) _ _] _ _) _ _); first
    | (refine' ws_putT _ ?a ?b ?c ?h; (case a => walk_at "ix"); (case b => walk_at "vis"); (case c => exact rfl))
    | (refine' ws_putK _ ?a ?b ?c ?h; (case a => walk_at "ix"); (case b => walk_at "vis"); (case c => exact rfl))
    | (refine' ws_item _ ?a ?b ?c ?h; (case a => walk_at "ix"); (case b => walk_at "vis"); (case c => exact rfl)))
  | ((with_reducible show WS _ (Stmt.Raise _ _ _) _ _); refine' ws_raise ?m ?j ?g ?h (hn := ?n); (case m => walk_at "hyp"); (case n => decide); (case j => walk_at "j"); (case g => exact rfl))
  | ((with_reducible show WS _ (Stmt.Pass _) _ _); refine' ws_pass ?_)
  | ((with_reducible show WS _ (Stmt.Break _) _ _); refine' ws_break ?_)
  | ((with_reducible show WS _ (Stmt.Continue _) _ _); refine' ws_cont ?_))
local macro_rules | `(tactic| walk_at "lam") => `(tactic| first
  | (refine' we_caught 16 ?F rfl rfl (Nat.le_of_ble_eq_true rfl) rfl (by dsimp only; decide +kernel) ?h; (case F => walk_at "hyp"))
  | (refine' we_caught 15 ?F rfl rfl (Nat.le_of_ble_eq_true rfl) rfl (by dsimp only; decide +kernel) ?h; (case F => walk_at "hyp"))
  | (refine' we_caught 14 ?F rfl rfl (Nat.le_of_ble_eq_true rfl) rfl (by dsimp only; decide +kernel) ?h; (case F => walk_at "hyp"))
  | (refine' we_caught 13 ?F rfl rfl (Nat.le_of_ble_eq_true rfl) rfl (by dsimp only; decide +kernel) ?h; (case F => walk_at "hyp"))
  | (refine' we_caught 12 ?F rfl rfl (Nat.le_of_ble_eq_true rfl) rfl (by dsimp only; decide +kernel) ?h; (case F => walk_at "hyp"))
  | (refine' we_caught 11 ?F rfl rfl (Nat.le_of_ble_eq_true rfl) rfl (by dsimp only; decide +kernel) ?h; (case F => walk_at "hyp"))
  | (refine' we_caught 10 ?F rfl rfl (Nat.le_of_ble_eq_true rfl) rfl (by dsimp only; decide +kernel) ?h; (case F => walk_at "hyp"))
  | (refine' we_caught 9 ?F rfl rfl (Nat.le_of_ble_eq_true rfl) rfl (by dsimp only; decide +kernel) ?h; (case F => walk_at "hyp"))
  | (refine' we_caught 8 ?F rfl rfl (Nat.le_of_ble_eq_true rfl) rfl (by dsimp only; decide +kernel) ?h; (case F => walk_at "hyp"))
  | (refine' we_caught 7 ?F rfl rfl (Nat.le_of_ble_eq_true rfl) rfl (by dsimp only; decide +kernel) ?h; (case F => walk_at "hyp"))
  | (refine' we_caught 6 ?F rfl rfl (Nat.le_of_ble_eq_true rfl) rfl (by dsimp only; decide +kernel) ?h; (case F => walk_at "hyp"))
  | (refine' we_caught 5 ?F rfl rfl (Nat.le_of_ble_eq_true rfl) rfl (by dsimp only; decide +kernel) ?h; (case F => walk_at "hyp"))
  | (refine' we_caught 4 ?F rfl rfl (Nat.le_of_ble_eq_true rfl) rfl (by dsimp only; decide +kernel) ?h; (case F => walk_at "hyp"))
  | (refine' we_caught 3 ?F rfl rfl (Nat.le_of_ble_eq_true rfl) rfl (by dsimp only; decide +kernel) ?h; (case F => walk_at "hyp")))
local macro_rules | `(tactic| walk_at "we") => `(tactic| first
  | ((with_reducible show WE _ (Expr.Name _ _) _ _); first
    | (refine' we_var _ ?a ?b ?c ?d ?h; (case a => walk_at "ix"); (case b => walk_at "vis"); (case c => first | exact rfl | exact no_at rfl (by assumption)); (case d => first | exact rfl | assumption); (all_goals (try dsimp only)))
    | (refine' we_ty ?a ?b ?c ?h; (case c => walk_at "kty"); (case b => walk_at "no"); (case a => exact rfl); (all_goals (try dsimp only)))
    | (refine' we_cls ?a ?b ?h; (case b => first | exact (CFx.g (by walk_at "hyp")) | walk_at "hyp"); (case a => exact rfl); (all_goals (try dsimp only))))
  | ((with_reducible show WE _ (Expr.Constant _ _ _) _ _); first | refine' we_int ?_ | refine' we_str ?_ | refine' we_bl ?_ | refine' we_non ?_)
  | ((with_reducible show WE _ (Expr.Tuple _ _ _) _ _); refine' we_tup ?_)
  | ((with_reducible show WE _ (Expr.List _ _) _ _); refine' we_lst ?_)
  | ((with_reducible show WE _ (Expr.BinOp _ _ _ _) _ _); refine' we_bin ?_)
  | ((with_reducible show WE _ (Expr.UnaryOp UnaryOp.USub _ _) _ _); refine' we_neg ?_)
  | ((with_reducible show WE _ (Expr.UnaryOp UnaryOp.Not _ _) _ _); refine' we_not ?_)
  | ((with_reducible show WE _ (Expr.BoolOp _ [_] _) _ _); refine' we_one ?_)
  | ((with_reducible show WE _ (Expr.BoolOp BoolOp.And _ _) _ _); refine' we_and ?_)
  | ((with_reducible show WE _ (Expr.BoolOp BoolOp.Or _ _) _ _); refine' we_or ?_)
  | ((with_reducible show WE _ (Expr.Compare _ [_] _ _) _ _); refine' we_cmp ?_)
  | ((with_reducible show WE _ (Expr.Compare _ [_, _] _ _) _ _); refine' we_chain ?_)
  | ((with_reducible show WE _ (Expr.IfExp _ _ _ _) _ _); refine' we_if ?_)
  | ((with_reducible show WE _ (Expr.Subscript _ (Expr.Slice _ _ _ _) _) _ _); refine' we_slice ?_)
  | ((with_reducible show WE _ (Expr.Subscript (Expr.Name _ _) _ _) _ _); first
    | (refine' we_oix (d0 := .oK _ _ _) _ ?a ?b ?c rfl ?h; (case a => walk_at "ix"); (case b => walk_at "vis"); (case c => exact rfl))
    | (refine' we_oix (d0 := .oT _ _ _) _ ?a ?b ?c rfl ?h; (case a => walk_at "ix"); (case b => walk_at "vis"); (case c => exact rfl))
    | (refine' we_olx _ ?a ?b ?c ?h; (case a => walk_at "ix"); (case b => walk_at "vis"); (case c => exact rfl))
    | refine' we_ix ?_)
  | ((with_reducible show WE _ (Expr.Subscript _ _ _) _ _); refine' we_ix ?_)
  | ((with_reducible show WE _ (Expr.Attribute (Expr.Name _ _) _ _) _ _); refine' we_fldO _ ?a ?b ?c ?d ?e ?f ?h; (case a => walk_at "ix"); (case b => walk_at "vis"); (case c => exact rfl); (case d => walk_at "cl"); (case e => walk_at "na"); (case f => exact rfl); (all_goals (try dsimp only)))
  | ((with_reducible show WE _ (Expr.Attribute _ _ _) _ _); refine' we_fld ?_)
  | ((with_reducible show WE _ (Expr.Call (Expr.Attribute _ "get" _) _ _ _) _ _); refine' we_dget1 ?_)
  | ((with_reducible show WE _ (Expr.Call (Expr.Attribute _ "join" _) _ _ _) _ _); refine' we_join ?_)
  | ((with_reducible show WE _ (Expr.Call (Expr.Name "len" _) [Expr.Name _ _] _ _) _ _); first
    | (refine' we_olen _ ?g ?m boot_len ?a ?b ?c ?_; (case a => walk_at "ix"); (case b => walk_at "vis"); (case c => exact rfl); (case m => walk_at "no"); (case g => exact rfl); (all_goals (try dsimp only)))
    | (refine' we_lenK _ ?g ?m boot_len ?a ?b ?c ?_; (case a => walk_at "ix"); (case b => walk_at "vis"); (case c => exact rfl); (case m => walk_at "no"); (case g => exact rfl); (all_goals (try dsimp only))))
  | ((with_reducible show WE _ (Expr.Call (Expr.Name _ _) [Expr.Lambda _ _ _ _] _ _) _ _); walk_at "lam")
  | ((with_reducible show WE _ (Expr.Call (Expr.Name _ _) _ _ _) _ _); first
    | (refine' we_call ?F ?hj ?hg ?h; (case F => walk_at "hyp"); (case hj => walk_at "j"); (case hg => exact rfl))
    | (refine' we_callT ?F ?hl ?hj ?hg ?h; (case F => walk_at "hyp"); (case hl => exact rfl); (case hj => walk_at "j"); (case hg => exact rfl))
    | (refine' we_make ?F ?hj ?hg ?h; (case F => walk_at "hyp"); (case hj => walk_at "j"); (case hg => exact rfl))
    | (refine' we_of_wo (wo_callB ?a ?b ?c ?h); (case c => walk_at "kw"); (case b => walk_at "no"); (case a => exact rfl))
    | (refine' we_of_wo (wo_callTy ?a ?b ?c ?h); (case c => walk_at "kty"); (case b => walk_at "no"); (case a => exact rfl))))
local macro_rules | `(tactic| walk_at "wo") => `(tactic| first
  | ((with_reducible show WO _ (Expr.Tuple _ _ _) _ _); refine' wo_tup ?_)
  | ((with_reducible show WO _ (Expr.List _ _) _ _); refine' wo_lst ?_)
  | ((with_reducible show WO _ (Expr.BinOp _ _ _ _) _ _); refine' wo_bin ?_)
  | ((with_reducible show WO _ (Expr.IfExp _ _ _ _) _ _); refine' wo_if ?_)
  | ((with_reducible show WO _ (Expr.Subscript _ (Expr.Slice _ _ _ _) _) _ _); refine' wo_slice ?_)
  | ((with_reducible show WO _ (Expr.Call (Expr.Name _ _) _ _ _) _ _); first
    | (refine' wo_call ?F ?hj ?hg ?h; (case F => walk_at "hyp"); (case hj => walk_at "j"); (case hg => exact rfl))
    | (refine' wo_callT ?F ?hl ?hj ?hg ?h; (case F => walk_at "hyp"); (case hl => exact rfl); (case hj => walk_at "j"); (case hg => exact rfl))
    | (refine' wo_make ?F ?hj ?hg ?h; (case F => walk_at "hyp"); (case hj => walk_at "j"); (case hg => exact rfl))
    | (refine' wo_callB ?a ?b ?c ?h; (case c => walk_at "kw"); (case b => walk_at "no"); (case a => exact rfl))
    | (refine' wo_callTy ?a ?b ?c ?h; (case c => walk_at "kty"); (case b => walk_at "no"); (case a => exact rfl)))
  | ((with_reducible show WO _ (Expr.ListComp _ _ _ _) _ _); fail "a comprehension")
  | ((with_reducible show WO _ (Expr.Dict _ _ _) _ _); fail "a dict")
  | refine' wo_of_we ?_)
local macro_rules | `(tactic| walk_at "wt") => `(tactic| first
  | ((with_reducible show WT _ (Expr.Compare _ [_] [Expr.Name _ _] _) _ _); first
    | (refine' wt_oin (d0 := .oK _ _ _) _ ?a ?b ?c rfl ?h; (case a => walk_at "ix"); (case b => walk_at "vis"); (case c => exact rfl))
    | (refine' wt_oin (d0 := .oT _ _ _) _ ?a ?b ?c rfl ?h; (case a => walk_at "ix"); (case b => walk_at "vis"); (case c => exact rfl))
    | (refine' wt_oni (d0 := .oK _ _ _) _ ?a ?b ?c rfl ?h; (case a => walk_at "ix"); (case b => walk_at "vis"); (case c => exact rfl))
    | (refine' wt_oni (d0 := .oT _ _ _) _ ?a ?b ?c rfl ?h; (case a => walk_at "ix"); (case b => walk_at "vis"); (case c => exact rfl))
    | refine' wt_cmp ?_)
  | ((with_reducible show WT _ (Expr.Compare _ [_] _ _) _ _); refine' wt_cmp ?_)
  | ((with_reducible show WT _ (Expr.Compare _ [_, _] _ _) _ _); refine' wt_chain ?_)
  | ((with_reducible show WT _ (Expr.BoolOp _ _ _) _ _); refine' wt_pw ?_)
  | ((with_reducible show WT _ (Expr.UnaryOp UnaryOp.Not _ _) _ _); refine' wt_not ?_)
  | ((with_reducible show WT _ (Expr.Name _ _) _ _); refine' wt_truth ?_)
  | ((with_reducible show WT _ (Expr.Call _ _ _ _) _ _); refine' wt_truth ?_)
  | ((with_reducible show WT _ (Expr.Subscript _ _ _) _ _); refine' wt_truth ?_)
  | ((with_reducible show WT _ (Expr.Attribute _ _ _) _ _); refine' wt_truth ?_))
local macro_rules | `(tactic| walk_at "ww") => `(tactic| first
  | ((with_reducible show WW _ (Expr.BoolOp BoolOp.And [_] _) _ _); refine' ww_and1 ?_)
  | ((with_reducible show WW _ (Expr.BoolOp BoolOp.Or [_] _) _ _); refine' ww_or1 ?_)
  | ((with_reducible show WW _ (Expr.BoolOp BoolOp.And _ _) _ _); refine' ww_and ?_)
  | ((with_reducible show WW _ (Expr.BoolOp BoolOp.Or _ _) _ _); refine' ww_or ?_))
local macro_rules | `(tactic| walk_at "wa") => `(tactic| first
  | ((with_reducible show WA _ [] _ _); refine' wa_nil ?_; try dsimp only)
  | ((with_reducible show WA _ (Expr.Starred _ _ :: _) _ _); refine' wa_star ?_)
  | refine' wa_cons ?_)
local macro_rules | `(tactic| walk_at "wop") => `(tactic| first
  | ((with_reducible show WOp _ none _ _); unfold WOp; try dsimp only)
  | ((with_reducible show WOp _ (some _) _ _); unfold WOp))
local macro_rules | `(tactic| walk_at "wg") => `(tactic| first
  | ((with_reducible show WG _ _ (Expr.Name _ _) _ _ _); refine' wg_name _ ?a ?b ?c ?h; (case a => walk_at "ix"); (case b => walk_at "loc"); (case c => decide); (all_goals (try dsimp only [List.set_cons_zero, List.set_cons_succ, wipeD, List.map_cons, List.map_nil])))
  | ((with_reducible show WG _ _ (Expr.Tuple _ _ _) _ _ _); refine' wg_tup rfl ?_)
  | ((with_reducible show WGs _ _ [] _ _ _); refine' wgs_nil ?_; (try dsimp only [List.set_cons_zero, List.set_cons_succ, wipeD, List.map_cons, List.map_nil]))
  | ((with_reducible show WGs _ _ (_ :: _) _ _ _); refine' wgs_cons ?_))
local macro_rules | `(tactic| walk_at "vo") => `(tactic| first
  | ((with_reducible show VO _ (binaryOp Operator.Add) _ _ _); first | refine vo_add ?_ | refine vo_catT ?_ ?_ | refine vo_catL ?_ ?_ | refine vo_addS ?_ ?_)
  | ((with_reducible show VO _ (binaryOp Operator.Sub) _ _ _); refine vo_sub ?_)
  | ((with_reducible show VO _ (binaryOp Operator.Mult) _ _ _); refine vo_mul ?_ ?_)
  | ((with_reducible show VO _ (compareOp CmpOp.Lt) _ _ _); refine vo_lt ?_)
  | ((with_reducible show VO _ (compareOp CmpOp.LtE) _ _ _); refine vo_le ?_)
  | ((with_reducible show VO _ (compareOp CmpOp.Gt) _ _ _); refine vo_gt ?_)
  | ((with_reducible show VO _ (compareOp CmpOp.GtE) _ _ _); refine vo_ge ?_)
  | ((with_reducible show VO _ (compareOp CmpOp.Eq) _ _ _); first | refine vo_eqi ?_ | refine vo_eqS ?_)
  | ((with_reducible show VO _ (compareOp CmpOp.NotEq) _ _ _); first | refine vo_nei ?_ | refine vo_neS ?_)
  | ((with_reducible show VO _ (compareOp CmpOp.In) _ _ _); first | refine' vo_din (DkAt.fT rfl) ?_ | refine' vo_din (DkAt.dK rfl) ?_ | refine' vo_din (DkAt.fK rfl) ?_ | refine' vo_din (DkAt.dT rfl) ?_ | refine' vo_inS Sq.tup ?_ | refine' vo_inS Sq.lst ?_)
  | ((with_reducible show VO _ (compareOp CmpOp.NotIn) _ _ _); first | refine' vo_dni (DkAt.fT rfl) ?_ | refine' vo_dni (DkAt.dK rfl) ?_ | refine' vo_dni (DkAt.fK rfl) ?_ | refine' vo_dni (DkAt.dT rfl) ?_ | refine' vo_niS Sq.tup ?_ | refine' vo_niS Sq.lst ?_)
  | ((with_reducible show VO _ (compareOp CmpOp.Is) _ _ _); first | refine vo_isN ?_ | refine vo_isB ?_)
  | ((with_reducible show VO _ (compareOp CmpOp.IsNot) _ _ _); first | refine vo_notN ?_ | refine vo_nisB ?_))
local macro_rules | `(tactic| walk_at "vc") => `(tactic| first
  | ((with_reducible show VC _ (Value.builtin "len") _ _); first | refine vc_lenL ?_ | refine vc_lenT ?_ | refine vc_lenS ?_ ?_ | refine vc_lenA ?_ | refine vc_lenScr ?_ | refine vc_lenDK ?_ | (refine' vc_lenQ ?h ?_; (case h => assumption)))
  | ((with_reducible show VC _ (Value.builtin "isinstance") _ _); first
    | refine vc_isi (k := true) rfl (by decide +kernel) ?_ | refine vc_isi (k := false) rfl (by decide +kernel) ?_
    | refine vc_isiT ["list", "tuple"] (k := true) rfl (by decide +kernel) ?_ | refine vc_isiT ["list", "tuple"] (k := false) rfl (by decide +kernel) ?_
    | refine vc_isiI (CFx.cl (by walk_at "hyp")) (CFx.isC (by walk_at "hyp")) ?_)
  | ((with_reducible show VC _ (Value.type "tuple") _ _); first | refine' vc_tupL ?_ | refine' vc_tupT ?_ | (refine' vc_tupS ?h ?_; (case h => assumption)))
  | ((with_reducible show VC _ (Value.type "list") _ _); first | refine vc_lstL ?_ | refine vc_lstT ?_ | refine vc_lstScr ?_ | (refine' vc_lstQ ?h ?_; (case h => assumption)))
  | ((with_reducible show VC _ (Value.type "int") _ _); first | refine vc_int ?_ | refine vc_intB ?_)
  | ((with_reducible show VC _ (Value.type "str") _ _); first | refine vc_strS ?_)
  | ((with_reducible show VC _ (Value.builtin "all") _ _); refine' vc_all ?_)
  | ((with_reducible show VC _ (Value.builtin "any") _ _); refine' vc_any ?_)
  | ((with_reducible show VC _ (Value.builtin "sum") _ _); refine' vc_sum ?_)
  | ((with_reducible show VC _ (Value.builtin "min") _ _); refine' vc_min ?_)
  | ((with_reducible show VC _ (Value.builtin "max") _ _); refine' vc_max ?_))
local macro_rules | `(tactic| walk_at "w1") => `(tactic| first
  | ((with_reducible show WE _ _ _ _); walk_at "we")
  | ((with_reducible show WA _ _ _ _); walk_at "wa")
  | ((with_reducible show WO _ _ _ _); walk_at "wo")
  | ((with_reducible show WT _ _ _ _); walk_at "wt")
  | ((with_reducible show WW _ _ _ _); walk_at "ww")
  | ((with_reducible show WB _ _ _ _); walk_at "wb")
  | ((with_reducible show WS _ _ _ _); walk_at "ws")
  | ((with_reducible show WG _ _ _ _ _ _); walk_at "wg")
  | ((with_reducible show WGs _ _ _ _ _ _); walk_at "wg")
  | ((with_reducible show WOp _ _ _ _); walk_at "wop")
  | ((with_reducible show WTs _ _ _ _); unfold WTs; try dsimp only)
  | ((with_reducible show VO _ _ _ _ _); walk_at "vo")
  | ((with_reducible show VC _ _ _ _); walk_at "vc")
  | ((with_reducible show _ ≤ sizeLine); walk_at "sz")
  | ((with_reducible show VI _ _ _ _); first | (refine' vi_tup ?h ?_; (case h => exact rfl)) | (refine' vi_lst ?h ?_; (case h => exact rfl)) | (refine' vi_lsA ?h ?_; (case h => exact rfl)) | (refine' vi_dict ?h ?_; (case h => exact DkAt.dK rfl)) | (refine' vi_dict ?h ?_; (case h => exact DkAt.fT rfl)))
  | ((with_reducible show VS _ _ _ _ _); first | refine' vs_tup ?_ | refine' vs_lst ?_)
  | ((with_reducible show IsSeq _ _ ∧ _); first | refine' And.intro (Or.inl rfl) ?_ | refine' And.intro (Or.inr rfl) ?_ | (refine' And.intro ?p ?_; (case p => assumption)))
  | ((with_reducible show _ ∧ _); refine' And.intro ?p ?_; (case p => walk_at "side"))
  | ((with_reducible show ∃ _, DkAt _ _ _ ∧ _); first | refine' ⟨_, DkAt.fT rfl, ?_⟩ | refine' ⟨_, DkAt.dK rfl, ?_⟩ | refine' ⟨_, DkAt.fK rfl, ?_⟩ | refine' ⟨_, DkAt.dT rfl, ?_⟩)
  | ((with_reducible show ∃ _, OkAt _ _ _ ∧ _); first | refine' ⟨_, OkAt.oT rfl, ?_⟩ | refine' ⟨_, OkAt.oK rfl, ?_⟩)
  | ((with_reducible show ∃ _, Its _ _ ∧ _); first | refine' ⟨_, Its.lst, ?_⟩ | refine' ⟨_, Its.tup, ?_⟩ | refine' ⟨_, Its.lsA, ?_⟩ | refine' ⟨_, Its.scr, ?_⟩ | (refine' ⟨_, Its.seq ?h, ?_⟩; (case h => assumption)))
  | ((with_reducible show if _ = true then _ else _); first | (refine if_t rfl ?_; try dsimp only) | (refine if_f rfl ?_; try dsimp only))
  | (refine' ⟨_, _, _, _, rfl, ?cl, ?na, ?lk, ?_⟩; (case cl => walk_at "cl"); (case na => walk_at "na"); (case lk => first | exact rfl | assumption); (all_goals (try dsimp only)))
  | ((with_reducible show WI _ _ _ _ _); walk_at "wi")
  | ((with_reducible show ∃ _, (_ : D) = _ ∧ _); refine' ⟨_, rfl, ?_⟩)
  | ((with_reducible show ∃ _, (_ : Option Bool) = some _ ∧ _); refine' ⟨_, rfl, ?_⟩)
  | ((with_reducible show ∃ _, atI _ _ = some _ ∧ _); refine' ⟨_, rfl, ?_⟩)
  | ((with_reducible show ∃ (_ : D) (_ : D), (_ : D) = _ ∧ _); refine' ⟨_, _, rfl, ?_⟩)
  | ((with_reducible show ∃ _, (_ : List D) = _ ∧ _); refine' ⟨_, rfl, ?_⟩)
  | ((with_reducible show ∃ _ _, (_ : List D) = _ ∧ _); refine' ⟨_, _, rfl, ?_⟩)
  | (with_reducible exact Bool.not_true)
  | (with_reducible exact (rfl : false = false))
  | walk_at "own"
  | ((fail_if_success (with_reducible show ∃ _, _)); walk_at "sp"))
local macro_rules | `(tactic| walk_at "wi") => `(tactic| first
  | ((with_reducible show WI _ _ (Expr.Call (Expr.Name "range" _) [_] _ _) _ _); refine' wi_range1 ?a ?b ?_; (case b => walk_at "no"); (case a => exact rfl))
  | ((with_reducible show WI _ _ (Expr.Call (Expr.Name "range" _) [_, _] _ _) _ _); refine' wi_range2 ?a ?b ?_; (case b => walk_at "no"); (case a => exact rfl))
  | ((with_reducible show WI _ _ (Expr.Call (Expr.Name "zip" _) _ _ _) _ _); refine' wi_zipX ?a ?b ?_; (case b => walk_at "no"); (case a => exact rfl))
  | ((with_reducible show WI _ _ (Expr.Call (Expr.Name "enumerate" _) _ _ _) _ _); refine' wi_enumT ?a ?b ?_; (case b => walk_at "no"); (case a => exact rfl))
  | refine' wi_its ?_)
local macro_rules | `(tactic| walk_at "own") => `(tactic| fail "no own step")
local macro_rules | `(tactic| walk_at "sp") => `(tactic| first | refine' Exists.intro _ (And.intro rfl ?_) | refine' Exists.intro _ (Exists.intro _ (And.intro rfl ?_)) | refine' Exists.intro _ (Exists.intro _ (Exists.intro _ (And.intro rfl ?_))) | refine' Exists.intro _ (Exists.intro _ (Exists.intro _ (Exists.intro _ (And.intro rfl ?_)))) | refine' Exists.intro _ (Exists.intro _ (Exists.intro _ (Exists.intro _ (Exists.intro _ (And.intro rfl ?_))))) | refine' Exists.intro _ (Exists.intro _ (Exists.intro _ (Exists.intro _ (Exists.intro _ (Exists.intro _ (And.intro rfl ?_)))))) | refine' Exists.intro _ (Exists.intro _ (Exists.intro _ (Exists.intro _ (Exists.intro _ (Exists.intro _ (Exists.intro _ (And.intro rfl ?_))))))) | refine' Exists.intro _ (Exists.intro _ (Exists.intro _ (Exists.intro _ (Exists.intro _ (Exists.intro _ (Exists.intro _ (Exists.intro _ (And.intro rfl ?_)))))))) | refine' Exists.intro _ (Exists.intro _ (Exists.intro _ (Exists.intro _ (Exists.intro _ (Exists.intro _ (Exists.intro _ (Exists.intro _ (Exists.intro _ (And.intro rfl ?_))))))))))
local macro_rules | `(tactic| walk_at "w") => `(tactic| repeat' (w_strict (walk_at "w1")))
local macro_rules | `(tactic| walk_at "till if") => `(tactic| repeat' ((fail_if_success (with_reducible show WB _ (Stmt.If _ _ _ _ :: _) _ _)); w_strict (walk_at "w1")))
/-! JI: the law's own arrows. -/
section
variable {P : Program} {w : World} {K : PySem.W.Frag} {mg : Str → Option Value} {base : Heap} {C : Addr}
def spMade (C : Addr) : DSp := fun ds Q _ => ∃ xs n A, ds = [rowsD xs n A] ∧ Rw xs n A ∧ ∀ a Z f, Bf A n xs.length Z f Z.length 0 → Q (.oi a C bN (bF xs n A Z f))
abbrev s_made : Stmt := top 38
theorem sc_made : FnScope ["rows"] ["rows"] (defScope s_made) := ⟨rfl, rfl, rfl, by decide +kernel, rfl, by decide +kernel, by decide +kernel⟩
theorem ok_made {f : Addr} {fd : FuncData} (F : Fun K "_law_made" "_law_made" s_made f fd) (M : Mkr P w K mg base 4 "Behaviour" C spBeh) : FnOk P w K mg base (L2.CX P w) 6 f fd ["rows"] (lift K (spMade C)) := by
  refine def_ok F sc_made (fun ds Q E ⟨_, _, _, e, _⟩ => by rw [e]; rfl) fun ds Q E ⟨xs, n, A, e, hw, q⟩ => ?_
  subst e
  walk_at "w"
  exact fun Z f bf a => q a Z f bf
def spLArrow : DSp := fun ds Q _ => ∃ xs n A, ∃ s d : Nat, ds = [rowsD xs n A, .int (s : Int), .int (d : Int)] ∧ A.length ≤ 1000 ∧ Q (oI (step A s d))
abbrev s_larrow : Stmt := top 39
theorem sc_larrow : FnScope ["rows", "stand", "deed", "row"] ["rows", "stand", "deed"] (defScope s_larrow) := ⟨rfl, rfl, rfl, by decide +kernel, rfl, by decide +kernel, by decide +kernel⟩
theorem step_take {A : List Ar} {s d i : Nat} {a : Ar} (h : A[i]? = some a) (h0 : step (A.take i) s d = none) : step (A.take (i + 1)) s d = if a.1 = s ∧ a.2.1 = d then some a.2.2 else none := by
  unfold step at h0 ⊢
  rw [take_at h, List.find?_append]
  cases e : (A.take i).find? fun a => decide (a.1 = s ∧ a.2.1 = d) with
  | some b => rw [e] at h0; cases h0
  | none =>
    rw [Option.none_or, List.find?_singleton]
    by_cases k : a.1 = s ∧ a.2.1 = d
    · rw [if_pos k, if_pos (decide_eq_true k)]; rfl
    · rw [if_neg k, if_neg (by simpa using k)]; rfl
theorem step_some {A : List Ar} {s d i t : Nat} (h : step (A.take i) s d = some t) : step A s d = some t := by
  unfold step at h ⊢
  rw [← List.take_append_drop i A, List.find?_append]
  cases e : (A.take i).find? fun a => decide (a.1 = s ∧ a.2.1 = d) with
  | some b => rw [e] at h; exact h
  | none => rw [e] at h; cases h
theorem ok_larrow {f : Addr} {fd : FuncData} (F : Fun K "_law_arrow" "_law_arrow" s_larrow f fd) : FnOk P w K mg base (L2.CX P w) 1 f fd ["rows", "stand", "deed"] (lift K spLArrow) := by
  refine def_ok F sc_larrow (fun ds Q E ⟨_, _, _, _, _, e, _⟩ => by rw [e]; rfl) fun ds Q E ⟨xs, n, A, s, d, e, hl, q⟩ => ?_
  subst e
  walk_at "w"
  refine wb_cons (ws_for [3] ?_)
  walk_at "w"
  refine ⟨fun pre Δ' => step (A.take pre.length) s d = none ∧ ∃ c3, Δ' = [some (rowsD xs n A), some (.int (s : Int)), some (.int (d : Int)), c3], ⟨rfl, _, rfl⟩, ?_, ?_⟩
  · intro pre x post Δ' hsp ⟨h0, c3, hI⟩
    subst hI
    obtain ⟨a, ha, rfl⟩ := map_at hsp
    have hs := step_take ha h0
    walk_at "w"
    refine if_b (fun h1 => ?_) (fun h1 => ?_)
    · have h1 := of_decide_eq_true h1
      walk_at "w"
      refine if_b (fun h2 => ?_) (fun h2 => ?_)
      · have h2 := of_decide_eq_true h2
        walk_at "w"
        rw [if_pos ⟨by omega, by omega⟩] at hs
        rw [step_some hs] at q; exact q
      · have h2 := of_decide_eq_false h2
        walk_at "w"
        rw [snoc_len]
        exact ⟨by rw [hs, if_neg (by omega)], _, rfl⟩
    · have h1 := of_decide_eq_false h1
      walk_at "w"
      rw [snoc_len]
      exact ⟨by rw [hs, if_neg (by omega)], _, rfl⟩
  · intro Δ' ⟨h0, c3, hI⟩
    subst hI
    rw [List.length_map, List.take_length] at h0
    walk_at "w"
    rw [h0] at q; exact q
def spLBehind : DSp := fun ds Q _ => ∃ xs n A, ∃ r : List Nat, ds = [rowsD xs n A, .tup (iN r)] ∧ A.length ≤ 1000 ∧ Q (oI (goes A 0 r))
abbrev s_lbehind : Stmt := top 40
theorem sc_lbehind : FnScope ["rows", "run", "stand", "deed"] ["rows", "run"] (defScope s_lbehind) := ⟨rfl, rfl, rfl, by decide +kernel, rfl, by decide +kernel, by decide +kernel⟩
theorem oI_own (o : Option Nat) : (oI o).own = false := by cases o <;> rfl
theorem ok_lbehind {f : Addr} {fd : FuncData} (F : Fun K "_law_behind" "_law_behind" s_lbehind f fd) (d0 : Def P w K mg base 1 "_law_arrow" spLArrow) : FnOk P w K mg base (L2.CX P w) 2 f fd ["rows", "run"] (lift K spLBehind) := by
  refine def_ok F sc_lbehind (fun ds Q E ⟨_, _, _, _, e, _⟩ => by rw [e]; rfl) fun ds Q E ⟨xs, n, A, r, e, hl, q⟩ => ?_
  subst e
  walk_at "w"
  refine wb_cons (ws_for [3] ?_)
  walk_at "w"
  refine ⟨fun pre Δ' => ∃ c3, Δ' = [some (rowsD xs n A), some (.tup (iN r)), some (oI (goes A 0 (r.take pre.length))), c3], ⟨_, rfl⟩, ?_, ?_⟩
  · intro pre x post Δ' hsp ⟨c3, hI⟩
    subst hI
    obtain ⟨u, hu, rfl⟩ := map_at hsp
    have hg : goes A 0 (r.take (pre.length + 1)) = (goes A 0 (r.take pre.length)).bind fun s => step A s u := by rw [take_at hu, goes_snoc]
    cases hs : goes A 0 (r.take pre.length) with
    | none =>
      rw [hs] at hg
      walk_at "w"
      rw [snoc_len, hg]
      exact ⟨_, rfl⟩
    | some s =>
      rw [hs] at hg
      walk_at "w"
      rw [snoc_len, hg]
      exact ⟨_, rfl⟩
  · intro Δ' ⟨c3, hI⟩
    subst hI
    rw [iN_len, List.take_length]
    have := oI_own (goes A 0 r)
    walk_at "w"
    exact q
end
end K15
end
section
set_option Elab.async false
set_option linter.all false
set_option maxRecDepth 100000
set_option maxHeartbeats 4000000
namespace K15
open PySem PySem.Spec PyProof.Rows L2 DL
local macro_rules | `(tactic| walk_at "len") => `(tactic| simp only [rng_len, iN_len, sL_len, iL_len, List.length_map, List.length_append, List.length_cons, List.length_nil, List.length_replicate, List.length_take, List.length_drop, Int.toNat_natCast, Nat.zero_add, Nat.reduceAdd, Nat.reduceLeDiff])
local macro_rules | `(tactic| walk_at "sz") => `(tactic| first | (with_reducible assumption) | (refine' sz ?_; omega) | (refine' sz ?_; walk_at "len"; (try omega); done))
local macro_rules | `(tactic| walk_at "side") => `(tactic| first | (with_reducible assumption) | ((with_reducible show isOk _ _); first | assumption | exact isOk_bl | exact isOk_int | exact isOk_str | exact isOk_non) | (with_reducible rfl) | omega | walk_at "sz" | ((with_reducible show _ = _); rfl) | (walk_at "len"; (try omega); done))
local macro_rules | `(tactic| walk_at "ix") => `(tactic| ((try dsimp only [Cf.blk, lamC]); (with_reducible first | exact ix0 | exact ix1 | exact ix2 | exact ix3 | exact ix4 | exact ix5 | exact ix6 | exact ix7 | exact ix8 | exact ix9 | exact ix10 | exact ix11 | exact ix12 | exact ix13 | exact ix14 | exact ix15 | exact ix16 | exact ix17 | exact ix18 | exact ix19)))
local macro_rules | `(tactic| walk_at "vis") => `(tactic| first | exact .inl rfl | exact .inr (.inl rfl) | exact .inr (.inr rfl))
local macro_rules | `(tactic| walk_at "loc") => `(tactic| first | exact .inl rfl | exact .inr rfl)
local macro_rules | `(tactic| walk_at "hyp") => `(tactic| ((try dsimp only [Cf.blk, lamC]); with_reducible assumption))
local macro_rules | `(tactic| walk_at "j") => `(tactic| first | exact Nat.le_of_ble_eq_true rfl | (dsimp only [Cf.blk, lamC]; omega))
local macro_rules | `(tactic| walk_at "cl") => `(tactic| first | exact (CFx.cls (by walk_at "hyp")) | walk_at "hyp")
local macro_rules | `(tactic| walk_at "na") => `(tactic| first | exact CFx.no (by walk_at "hyp") _ (by repeat (first | exact List.Mem.head _ | apply List.Mem.tail)) | walk_at "hyp")
local macro_rules | `(tactic| walk_at "kw") => `(tactic| with_reducible first | exact boot_len | exact boot_isinstance | exact boot_all | exact boot_any | exact boot_sum | exact boot_min | exact boot_max | exact boot_sorted | exact boot_abs | exact boot_repr)
local macro_rules | `(tactic| walk_at "kty") => `(tactic| with_reducible first | exact boot_tuple | exact boot_list | exact boot_int | exact boot_str | exact boot_bool)
local macro_rules | `(tactic| walk_at "no") => `(tactic| ((try dsimp only [Cf.blk, lamC]); with_reducible first | assumption | exact Bl.isinstance (by assumption) | exact Bl.len (by assumption) | exact Bl.int (by assumption) | exact Bl.bool (by assumption) | exact Bl.str (by assumption) | exact Bl.list (by assumption) | exact Bl.tuple (by assumption) | exact Bl.range (by assumption) | exact Bl.all (by assumption) | exact Bl.any (by assumption) | exact Bl.zip (by assumption) | exact Bl.enumerate (by assumption) | exact Bl.min (by assumption)))
local macro_rules | `(tactic| walk_at "wb") => `(tactic| first
  | ((with_reducible show WB _ [] _ _); refine' wb_nil ?_; try dsimp only [List.set_cons_zero, List.set_cons_succ])
  | (refine' wb_cons ?_; walk_at "ws"))
local macro_rules | `(tactic| walk_at "ws") => `(tactic| first
  | ((with_reducible show WS _ (Stmt.If _ _ _ _) _ _); refine' ws_if ?_)
  | ((with_reducible show WS _ (Stmt.Return (some (Expr.Name _ _)) _) _ _); refine' ws_retO _ ?a ?b ?c ?h; (case a => walk_at "ix"); (case b => walk_at "vis"); (case c => exact rfl); (all_goals (try dsimp only)))
  | ((with_reducible show WS _ (Stmt.Return (some _) _) _ _); refine' ws_ret ?_)
  | ((with_reducible show WS _ (Stmt.Return none _) _ _); refine' ws_retN ?_)
  | ((with_reducible show WS _ (Stmt.Assign [Expr.Name _ _] (Expr.ListComp _ _ _ _) _) _ _); fail "a comprehension")
  | ((with_reducible show WS _ (Stmt.Assign [Expr.Name _ _] (Expr.Dict [] [] _) _) _ _); fail "a dict")
  | ((with_reducible show WS _ (Stmt.Assign [Expr.Name _ _] _ _) _ _); refine' ws_set _ ?a ?b ?h; (case a => walk_at "ix"); (case b => walk_at "loc"))
  | ((with_reducible show WS _ (Stmt.Assign [Expr.Attribute _ _ _] _ _) _ _); refine' ws_fld _ ?a ?b ?c ?d ?e ?f ?g ?h; (case a => walk_at "ix"); (case b => walk_at "vis"); (case c => exact rfl); (case d => walk_at "cl"); (case e => walk_at "na"); (case f => exact rfl); (case g => decide))
  | ((with_reducible show WS _ (Stmt.AugAssign (Expr.Name _ _) Operator.Add _ _) _ _); refine' ws_augAdd _ ?a ?b ?c ?h; (case a => walk_at "ix"); (case b => walk_at "loc"); (case c => exact rfl))
  | ((with_reducible show WS _ (Stmt.Expr (Expr.Call (Expr.Attribute (Expr.Name _ _) "append" _) _ _ _) _) _ _); refine' ws_app _ ?a ?b ?c ?h; (case a => walk_at "ix"); (case b => walk_at "vis"); (case c => exact rfl))
  | ((with_reducible show WS _ (Stmt.Expr (Expr.Call (Expr.Attribute (Expr.Name _ _) "extend" _) _ _ _) _) _ _); refine' ws_ext _ ?a ?b ?c ?h; (case a => walk_at "ix"); (case b => walk_at "vis"); (case c => exact rfl))
  | ((with_reducible show WS _ (Stmt.Expr (Expr.Constant (Const.str _) _ _) _) _ _); refine' ws_doc ?_)
  | ((with_reducible show WS _ (Stmt.Expr (Expr.Call (Expr.Name _ _) _ _ _) _) _ _); refine' ws_expr (Q := fun _ => True) ?_)
  | ((with_reducible show WS _ (Stmt.Assign [Expr.Subscript (Expr.Name _ _) _ _] _ _) _ _); first
    | (refine' ws_putT _ ?a ?b ?c ?h; (case a => walk_at "ix"); (case b => walk_at "vis"); (case c => exact rfl))
    | (refine' ws_putK _ ?a ?b ?c ?h; (case a => walk_at "ix"); (case b => walk_at "vis"); (case c => exact rfl))
    | (refine' ws_item _ ?a ?b ?c ?h; (case a => walk_at "ix"); (case b => walk_at "vis"); (case c => exact rfl)))
  | ((with_reducible show WS _ (Stmt.Raise _ _ _) _ _); refine' ws_raise ?m ?j ?g ?h (hn := ?n); (case m => walk_at "hyp"); (case n => decide); (case j => walk_at "j"); (case g => exact rfl))
  | ((with_reducible show WS _ (Stmt.Pass _) _ _); refine' ws_pass ?_)
  | ((with_reducible show WS _ (Stmt.Break _) _ _); refine' ws_break ?_)
  | ((with_reducible show WS _ (Stmt.Continue _) _ _); refine' ws_cont ?_))
local macro_rules | `(tactic| walk_at "lam") => `(tactic| first
  | (refine' we_caught 16 ?F rfl rfl (Nat.le_of_ble_eq_true rfl) rfl (by dsimp only; decide +kernel) ?h; (case F => walk_at "hyp"))
  | (refine' we_caught 15 ?F rfl rfl (Nat.le_of_ble_eq_true rfl) rfl (by dsimp only; decide +kernel) ?h; (case F => walk_at "hyp"))
  | (refine' we_caught 14 ?F rfl rfl (Nat.le_of_ble_eq_true rfl) rfl (by dsimp only; decide +kernel) ?h; (case F => walk_at "hyp"))
  | (refine' we_caught 13 ?F rfl rfl (Nat.le_of_ble_eq_true rfl) rfl (by dsimp only; decide +kernel) ?h; (case F => walk_at "hyp"))
  | (refine' we_caught 12 ?F rfl rfl (Nat.le_of_ble_eq_true rfl) rfl (by dsimp only; decide +kernel) ?h; (case F => walk_at "hyp"))
  | (refine' we_caught 11 ?F rfl rfl (Nat.le_of_ble_eq_true rfl) rfl (by dsimp only; decide +kernel) ?h; (case F => walk_at "hyp"))
  | (refine' we_caught 10 ?F rfl rfl (Nat.le_of_ble_eq_true rfl) rfl (by dsimp only; decide +kernel) ?h; (case F => walk_at "hyp"))
  | (refine' we_caught 9 ?F rfl rfl (Nat.le_of_ble_eq_true rfl) rfl (by dsimp only; decide +kernel) ?h; (case F => walk_at "hyp"))
  | (refine' we_caught 8 ?F rfl rfl (Nat.le_of_ble_eq_true rfl) rfl (by dsimp only; decide +kernel) ?h; (case F => walk_at "hyp"))
  | (refine' we_caught 7 ?F rfl rfl (Nat.le_of_ble_eq_true rfl) rfl (by dsimp only; decide +kernel) ?h; (case F => walk_at "hyp"))
  | (refine' we_caught 6 ?F rfl rfl (Nat.le_of_ble_eq_true rfl) rfl (by dsimp only; decide +kernel) ?h; (case F => walk_at "hyp"))
  | (refine' we_caught 5 ?F rfl rfl (Nat.le_of_ble_eq_true rfl) rfl (by dsimp only; decide +kernel) ?h; (case F => walk_at "hyp"))
  | (refine' we_caught 4 ?F rfl rfl (Nat.le_of_ble_eq_true rfl) rfl (by dsimp only; decide +kernel) ?h; (case F => walk_at "hyp"))
  | (refine' we_caught 3 ?F rfl rfl (Nat.le_of_ble_eq_true rfl) rfl (by dsimp only; decide +kernel) ?h; (case F => walk_at "hyp")))
local macro_rules | `(tactic| walk_at "we") => `(tactic| first
  | ((with_reducible show WE _ (Expr.Name _ _) _ _); first
    | (refine' we_var _ ?a ?b ?c ?d ?h; (case a => walk_at "ix"); (case b => walk_at "vis"); (case c => first | exact rfl | exact no_at rfl (by assumption)); (case d => first | exact rfl | assumption); (all_goals (try dsimp only)))
    | (refine' we_ty ?a ?b ?c ?h; (case c => walk_at "kty"); (case b => walk_at "no"); (case a => exact rfl); (all_goals (try dsimp only)))
    | (refine' we_cls ?a ?b ?h; (case b => first | exact (CFx.g (by walk_at "hyp")) | walk_at "hyp"); (case a => exact rfl); (all_goals (try dsimp only))))
  | ((with_reducible show WE _ (Expr.Constant _ _ _) _ _); first | refine' we_int ?_ | refine' we_str ?_ | refine' we_bl ?_ | refine' we_non ?_)
  | ((with_reducible show WE _ (Expr.Tuple _ _ _) _ _); refine' we_tup ?_)
  | ((with_reducible show WE _ (Expr.List _ _) _ _); refine' we_lst ?_)
  | ((with_reducible show WE _ (Expr.BinOp _ _ _ _) _ _); refine' we_bin ?_)
  | ((with_reducible show WE _ (Expr.UnaryOp UnaryOp.USub _ _) _ _); refine' we_neg ?_)
  | ((with_reducible show WE _ (Expr.UnaryOp UnaryOp.Not _ _) _ _); refine' we_not ?_)
  | ((with_reducible show WE _ (Expr.BoolOp _ [_] _) _ _); refine' we_one ?_)
  | ((with_reducible show WE _ (Expr.BoolOp BoolOp.And _ _) _ _); refine' we_and ?_)
  | ((with_reducible show WE _ (Expr.BoolOp BoolOp.Or _ _) _ _); refine' we_or ?_)
  | ((with_reducible show WE _ (Expr.Compare _ [_] _ _) _ _); refine' we_cmp ?_)
  | ((with_reducible show WE _ (Expr.Compare _ [_, _] _ _) _ _); refine' we_chain ?_)
  | ((with_reducible show WE _ (Expr.IfExp _ _ _ _) _ _); refine' we_if ?_)
  | ((with_reducible show WE _ (Expr.Subscript _ (Expr.Slice _ _ _ _) _) _ _); refine' we_slice ?_)
  | ((with_reducible show WE _ (Expr.Subscript (Expr.Name _ _) _ _) _ _); first
    | (refine' we_oix (d0 := .oK _ _ _) _ ?a ?b ?c rfl ?h; (case a => walk_at "ix"); (case b => walk_at "vis"); (case c => exact rfl))
    | (refine' we_oix (d0 := .oT _ _ _) _ ?a ?b ?c rfl ?h; (case a => walk_at "ix"); (case b => walk_at "vis"); (case c => exact rfl))
    | (refine' we_olx _ ?a ?b ?c ?h; (case a => walk_at "ix"); (case b => walk_at "vis"); (case c => exact rfl))
    | refine' we_ix ?_)
  | ((with_reducible show WE _ (Expr.Subscript _ _ _) _ _); refine' we_ix ?_)
  | ((with_reducible show WE _ (Expr.Attribute (Expr.Name _ _) _ _) _ _); refine' we_fldO _ ?a ?b ?c ?d ?e ?f ?h; (case a => walk_at "ix"); (case b => walk_at "vis"); (case c => exact rfl); (case d => walk_at "cl"); (case e => walk_at "na"); (case f => exact rfl); (all_goals (try dsimp only)))
  | ((with_reducible show WE _ (Expr.Attribute _ _ _) _ _); refine' we_fld ?_)
  | ((with_reducible show WE _ (Expr.Call (Expr.Attribute _ "get" _) _ _ _) _ _); refine' we_dget1 ?_)
  | ((with_reducible show WE _ (Expr.Call (Expr.Attribute _ "join" _) _ _ _) _ _); refine' we_join ?_)
  | ((with_reducible show WE _ (Expr.Call (Expr.Name "len" _) [Expr.Name _ _] _ _) _ _); first
    | (refine' we_olen _ ?g ?m boot_len ?a ?b ?c ?_; (case a => walk_at "ix"); (case b => walk_at "vis"); (case c => exact rfl); (case m => walk_at "no"); (case g => exact rfl); (all_goals (try dsimp only)))
    | (refine' we_lenK _ ?g ?m boot_len ?a ?b ?c ?_; (case a => walk_at "ix"); (case b => walk_at "vis"); (case c => exact rfl); (case m => walk_at "no"); (case g => exact rfl); (all_goals (try dsimp only))))
  | ((with_reducible show WE _ (Expr.Call (Expr.Name _ _) [Expr.Lambda _ _ _ _] _ _) _ _); walk_at "lam")
  | ((with_reducible show WE _ (Expr.Call (Expr.Name _ _) _ _ _) _ _); first
    | (refine' we_call ?F ?hj ?hg ?h; (case F => walk_at "hyp"); (case hj => walk_at "j"); (case hg => exact rfl))
    | (refine' we_callT ?F ?hl ?hj ?hg ?h; (case F => walk_at "hyp"); (case hl => exact rfl); (case hj => walk_at "j"); (case hg => exact rfl))
    | (refine' we_make ?F ?hj ?hg ?h; (case F => walk_at "hyp"); (case hj => walk_at "j"); (case hg => exact rfl))
    | (refine' we_of_wo (wo_callB ?a ?b ?c ?h); (case c => walk_at "kw"); (case b => walk_at "no"); (case a => exact rfl))
    | (refine' we_of_wo (wo_callTy ?a ?b ?c ?h); (case c => walk_at "kty"); (case b => walk_at "no"); (case a => exact rfl))))
local macro_rules | `(tactic| walk_at "wo") => `(tactic| first
  | ((with_reducible show WO _ (Expr.Tuple _ _ _) _ _); refine' wo_tup ?_)
  | ((with_reducible show WO _ (Expr.List _ _) _ _); refine' wo_lst ?_)
  | ((with_reducible show WO _ (Expr.BinOp _ _ _ _) _ _); refine' wo_bin ?_)
  | ((with_reducible show WO _ (Expr.IfExp _ _ _ _) _ _); refine' wo_if ?_)
  | ((with_reducible show WO _ (Expr.Subscript _ (Expr.Slice _ _ _ _) _) _ _); refine' wo_slice ?_)
  | ((with_reducible show WO _ (Expr.Call (Expr.Name _ _) _ _ _) _ _); first
    | (refine' wo_call ?F ?hj ?hg ?h; (case F => walk_at "hyp"); (case hj => walk_at "j"); (case hg => exact rfl))
    | (refine' wo_callT ?F ?hl ?hj ?hg ?h; (case F => walk_at "hyp"); (case hl => exact rfl); (case hj => walk_at "j"); (case hg => exact rfl))
    | (refine' wo_make ?F ?hj ?hg ?h; (case F => walk_at "hyp"); (case hj => walk_at "j"); (case hg => exact rfl))
    | (refine' wo_callB ?a ?b ?c ?h; (case c => walk_at "kw"); (case b => walk_at "no"); (case a => exact rfl))
    | (refine' wo_callTy ?a ?b ?c ?h; (case c => walk_at "kty"); (case b => walk_at "no"); (case a => exact rfl)))
  | ((with_reducible show WO _ (Expr.ListComp _ _ _ _) _ _); fail "a comprehension")
  | ((with_reducible show WO _ (Expr.Dict _ _ _) _ _); fail "a dict")
  | refine' wo_of_we ?_)
local macro_rules | `(tactic| walk_at "wt") => `(tactic| first
  | ((with_reducible show WT _ (Expr.Compare _ [_] [Expr.Name _ _] _) _ _); first
    | (refine' wt_oin (d0 := .oK _ _ _) _ ?a ?b ?c rfl ?h; (case a => walk_at "ix"); (case b => walk_at "vis"); (case c => exact rfl))
    | (refine' wt_oin (d0 := .oT _ _ _) _ ?a ?b ?c rfl ?h; (case a => walk_at "ix"); (case b => walk_at "vis"); (case c => exact rfl))
    | (refine' wt_oni (d0 := .oK _ _ _) _ ?a ?b ?c rfl ?h; (case a => walk_at "ix"); (case b => walk_at "vis"); (case c => exact rfl))
    | (refine' wt_oni (d0 := .oT _ _ _) _ ?a ?b ?c rfl ?h; (case a => walk_at "ix"); (case b => walk_at "vis"); (case c => exact rfl))
    | refine' wt_cmp ?_)
  | ((with_reducible show WT _ (Expr.Compare _ [_] _ _) _ _); refine' wt_cmp ?_)
  | ((with_reducible show WT _ (Expr.Compare _ [_, _] _ _) _ _); refine' wt_chain ?_)
  | ((with_reducible show WT _ (Expr.BoolOp _ _ _) _ _); refine' wt_pw ?_)
  | ((with_reducible show WT _ (Expr.UnaryOp UnaryOp.Not _ _) _ _); refine' wt_not ?_)
  | ((with_reducible show WT _ (Expr.Name _ _) _ _); refine' wt_truth ?_)
  | ((with_reducible show WT _ (Expr.Call _ _ _ _) _ _); refine' wt_truth ?_)
  | ((with_reducible show WT _ (Expr.Subscript _ _ _) _ _); refine' wt_truth ?_)
  | ((with_reducible show WT _ (Expr.Attribute _ _ _) _ _); refine' wt_truth ?_))
local macro_rules | `(tactic| walk_at "ww") => `(tactic| first
  | ((with_reducible show WW _ (Expr.BoolOp BoolOp.And [_] _) _ _); refine' ww_and1 ?_)
  | ((with_reducible show WW _ (Expr.BoolOp BoolOp.Or [_] _) _ _); refine' ww_or1 ?_)
  | ((with_reducible show WW _ (Expr.BoolOp BoolOp.And _ _) _ _); refine' ww_and ?_)
  | ((with_reducible show WW _ (Expr.BoolOp BoolOp.Or _ _) _ _); refine' ww_or ?_))
local macro_rules | `(tactic| walk_at "wa") => `(tactic| first
  | ((with_reducible show WA _ [] _ _); refine' wa_nil ?_; try dsimp only)
  | ((with_reducible show WA _ (Expr.Starred _ _ :: _) _ _); refine' wa_star ?_)
  | refine' wa_cons ?_)
local macro_rules | `(tactic| walk_at "wop") => `(tactic| first
  | ((with_reducible show WOp _ none _ _); unfold WOp; try dsimp only)
  | ((with_reducible show WOp _ (some _) _ _); unfold WOp))
local macro_rules | `(tactic| walk_at "wg") => `(tactic| first
  | ((with_reducible show WG _ _ (Expr.Name _ _) _ _ _); refine' wg_name _ ?a ?b ?c ?h; (case a => walk_at "ix"); (case b => walk_at "loc"); (case c => decide); (all_goals (try dsimp only [List.set_cons_zero, List.set_cons_succ, wipeD, List.map_cons, List.map_nil])))
  | ((with_reducible show WG _ _ (Expr.Tuple _ _ _) _ _ _); refine' wg_tup rfl ?_)
  | ((with_reducible show WGs _ _ [] _ _ _); refine' wgs_nil ?_; (try dsimp only [List.set_cons_zero, List.set_cons_succ, wipeD, List.map_cons, List.map_nil]))
  | ((with_reducible show WGs _ _ (_ :: _) _ _ _); refine' wgs_cons ?_))
local macro_rules | `(tactic| walk_at "vo") => `(tactic| first
  | ((with_reducible show VO _ (binaryOp Operator.Add) _ _ _); first | refine vo_add ?_ | refine vo_catT ?_ ?_ | refine vo_catL ?_ ?_ | refine vo_addS ?_ ?_)
  | ((with_reducible show VO _ (binaryOp Operator.Sub) _ _ _); refine vo_sub ?_)
  | ((with_reducible show VO _ (binaryOp Operator.Mult) _ _ _); refine vo_mul ?_ ?_)
  | ((with_reducible show VO _ (compareOp CmpOp.Lt) _ _ _); refine vo_lt ?_)
  | ((with_reducible show VO _ (compareOp CmpOp.LtE) _ _ _); refine vo_le ?_)
  | ((with_reducible show VO _ (compareOp CmpOp.Gt) _ _ _); refine vo_gt ?_)
  | ((with_reducible show VO _ (compareOp CmpOp.GtE) _ _ _); refine vo_ge ?_)
  | ((with_reducible show VO _ (compareOp CmpOp.Eq) _ _ _); first | refine vo_eqi ?_ | refine vo_eqS ?_)
  | ((with_reducible show VO _ (compareOp CmpOp.NotEq) _ _ _); first | refine vo_nei ?_ | refine vo_neS ?_)
  | ((with_reducible show VO _ (compareOp CmpOp.In) _ _ _); first | refine' vo_din (DkAt.fT rfl) ?_ | refine' vo_din (DkAt.dK rfl) ?_ | refine' vo_din (DkAt.fK rfl) ?_ | refine' vo_din (DkAt.dT rfl) ?_ | refine' vo_inS Sq.tup ?_ | refine' vo_inS Sq.lst ?_)
  | ((with_reducible show VO _ (compareOp CmpOp.NotIn) _ _ _); first | refine' vo_dni (DkAt.fT rfl) ?_ | refine' vo_dni (DkAt.dK rfl) ?_ | refine' vo_dni (DkAt.fK rfl) ?_ | refine' vo_dni (DkAt.dT rfl) ?_ | refine' vo_niS Sq.tup ?_ | refine' vo_niS Sq.lst ?_)
  | ((with_reducible show VO _ (compareOp CmpOp.Is) _ _ _); first | refine vo_isN ?_ | refine vo_isB ?_)
  | ((with_reducible show VO _ (compareOp CmpOp.IsNot) _ _ _); first | refine vo_notN ?_ | refine vo_nisB ?_))
local macro_rules | `(tactic| walk_at "vc") => `(tactic| first
  | ((with_reducible show VC _ (Value.builtin "len") _ _); first | refine vc_lenL ?_ | refine vc_lenT ?_ | refine vc_lenS ?_ ?_ | refine vc_lenA ?_ | refine vc_lenScr ?_ | refine vc_lenDK ?_ | (refine' vc_lenQ ?h ?_; (case h => assumption)))
  | ((with_reducible show VC _ (Value.builtin "isinstance") _ _); first
    | refine vc_isi (k := true) rfl (by decide +kernel) ?_ | refine vc_isi (k := false) rfl (by decide +kernel) ?_
    | refine vc_isiT ["list", "tuple"] (k := true) rfl (by decide +kernel) ?_ | refine vc_isiT ["list", "tuple"] (k := false) rfl (by decide +kernel) ?_
    | refine vc_isiI (CFx.cl (by walk_at "hyp")) (CFx.isC (by walk_at "hyp")) ?_)
  | ((with_reducible show VC _ (Value.type "tuple") _ _); first | refine' vc_tupL ?_ | refine' vc_tupT ?_ | (refine' vc_tupS ?h ?_; (case h => assumption)))
  | ((with_reducible show VC _ (Value.type "list") _ _); first | refine vc_lstL ?_ | refine vc_lstT ?_ | refine vc_lstScr ?_ | (refine' vc_lstQ ?h ?_; (case h => assumption)))
  | ((with_reducible show VC _ (Value.type "int") _ _); first | refine vc_int ?_ | refine vc_intB ?_)
  | ((with_reducible show VC _ (Value.type "str") _ _); first | refine vc_strS ?_)
  | ((with_reducible show VC _ (Value.builtin "all") _ _); refine' vc_all ?_)
  | ((with_reducible show VC _ (Value.builtin "any") _ _); refine' vc_any ?_)
  | ((with_reducible show VC _ (Value.builtin "sum") _ _); refine' vc_sum ?_)
  | ((with_reducible show VC _ (Value.builtin "min") _ _); refine' vc_min ?_)
  | ((with_reducible show VC _ (Value.builtin "max") _ _); refine' vc_max ?_))
local macro_rules | `(tactic| walk_at "w1") => `(tactic| first
  | ((with_reducible show WE _ _ _ _); walk_at "we")
  | ((with_reducible show WA _ _ _ _); walk_at "wa")
  | ((with_reducible show WO _ _ _ _); walk_at "wo")
  | ((with_reducible show WT _ _ _ _); walk_at "wt")
  | ((with_reducible show WW _ _ _ _); walk_at "ww")
  | ((with_reducible show WB _ _ _ _); walk_at "wb")
  | ((with_reducible show WS _ _ _ _); walk_at "ws")
  | ((with_reducible show WG _ _ _ _ _ _); walk_at "wg")
  | ((with_reducible show WGs _ _ _ _ _ _); walk_at "wg")
  | ((with_reducible show WOp _ _ _ _); walk_at "wop")
  | ((with_reducible show WTs _ _ _ _); unfold WTs; try dsimp only)
  | ((with_reducible show VO _ _ _ _ _); walk_at "vo")
  | ((with_reducible show VC _ _ _ _); walk_at "vc")
  | ((with_reducible show _ ≤ sizeLine); walk_at "sz")
  | ((with_reducible show VI _ _ _ _); first | (refine' vi_tup ?h ?_; (case h => exact rfl)) | (refine' vi_lst ?h ?_; (case h => exact rfl)) | (refine' vi_lsA ?h ?_; (case h => exact rfl)) | (refine' vi_dict ?h ?_; (case h => exact DkAt.dK rfl)) | (refine' vi_dict ?h ?_; (case h => exact DkAt.fT rfl)))
  | ((with_reducible show VS _ _ _ _ _); first | refine' vs_tup ?_ | refine' vs_lst ?_)
  | ((with_reducible show IsSeq _ _ ∧ _); first | refine' And.intro (Or.inl rfl) ?_ | refine' And.intro (Or.inr rfl) ?_ | (refine' And.intro ?p ?_; (case p => assumption)))
  | ((with_reducible show _ ∧ _); refine' And.intro ?p ?_; (case p => walk_at "side"))
  | ((with_reducible show ∃ _, DkAt _ _ _ ∧ _); first | refine' ⟨_, DkAt.fT rfl, ?_⟩ | refine' ⟨_, DkAt.dK rfl, ?_⟩ | refine' ⟨_, DkAt.fK rfl, ?_⟩ | refine' ⟨_, DkAt.dT rfl, ?_⟩)
  | ((with_reducible show ∃ _, OkAt _ _ _ ∧ _); first | refine' ⟨_, OkAt.oT rfl, ?_⟩ | refine' ⟨_, OkAt.oK rfl, ?_⟩)
  | ((with_reducible show ∃ _, Its _ _ ∧ _); first | refine' ⟨_, Its.lst, ?_⟩ | refine' ⟨_, Its.tup, ?_⟩ | refine' ⟨_, Its.lsA, ?_⟩ | refine' ⟨_, Its.scr, ?_⟩ | (refine' ⟨_, Its.seq ?h, ?_⟩; (case h => assumption)))
  | ((with_reducible show if _ = true then _ else _); first | (refine if_t rfl ?_; try dsimp only) | (refine if_f rfl ?_; try dsimp only))
  | (refine' ⟨_, _, _, _, rfl, ?cl, ?na, ?lk, ?_⟩; (case cl => walk_at "cl"); (case na => walk_at "na"); (case lk => first | exact rfl | assumption); (all_goals (try dsimp only)))
  | ((with_reducible show WI _ _ _ _ _); walk_at "wi")
  | ((with_reducible show ∃ _, (_ : D) = _ ∧ _); refine' ⟨_, rfl, ?_⟩)
  | ((with_reducible show ∃ _, (_ : Option Bool) = some _ ∧ _); refine' ⟨_, rfl, ?_⟩)
  | ((with_reducible show ∃ _, atI _ _ = some _ ∧ _); refine' ⟨_, rfl, ?_⟩)
  | ((with_reducible show ∃ (_ : D) (_ : D), (_ : D) = _ ∧ _); refine' ⟨_, _, rfl, ?_⟩)
  | ((with_reducible show ∃ _, (_ : List D) = _ ∧ _); refine' ⟨_, rfl, ?_⟩)
  | ((with_reducible show ∃ _ _, (_ : List D) = _ ∧ _); refine' ⟨_, _, rfl, ?_⟩)
  | (with_reducible exact Bool.not_true)
  | (with_reducible exact (rfl : false = false))
  | walk_at "own"
  | ((fail_if_success (with_reducible show ∃ _, _)); walk_at "sp"))
local macro_rules | `(tactic| walk_at "wi") => `(tactic| first
  | ((with_reducible show WI _ _ (Expr.Call (Expr.Name "range" _) [_] _ _) _ _); refine' wi_range1 ?a ?b ?_; (case b => walk_at "no"); (case a => exact rfl))
  | ((with_reducible show WI _ _ (Expr.Call (Expr.Name "range" _) [_, _] _ _) _ _); refine' wi_range2 ?a ?b ?_; (case b => walk_at "no"); (case a => exact rfl))
  | ((with_reducible show WI _ _ (Expr.Call (Expr.Name "zip" _) _ _ _) _ _); refine' wi_zipX ?a ?b ?_; (case b => walk_at "no"); (case a => exact rfl))
  | ((with_reducible show WI _ _ (Expr.Call (Expr.Name "enumerate" _) _ _ _) _ _); refine' wi_enumT ?a ?b ?_; (case b => walk_at "no"); (case a => exact rfl))
  | refine' wi_its ?_)
local macro_rules | `(tactic| walk_at "own") => `(tactic| fail "no own step")
local macro_rules | `(tactic| walk_at "sp") => `(tactic| first | refine' Exists.intro _ (And.intro rfl ?_) | refine' Exists.intro _ (Exists.intro _ (And.intro rfl ?_)) | refine' Exists.intro _ (Exists.intro _ (Exists.intro _ (And.intro rfl ?_))) | refine' Exists.intro _ (Exists.intro _ (Exists.intro _ (Exists.intro _ (And.intro rfl ?_)))) | refine' Exists.intro _ (Exists.intro _ (Exists.intro _ (Exists.intro _ (Exists.intro _ (And.intro rfl ?_))))) | refine' Exists.intro _ (Exists.intro _ (Exists.intro _ (Exists.intro _ (Exists.intro _ (Exists.intro _ (And.intro rfl ?_)))))) | refine' Exists.intro _ (Exists.intro _ (Exists.intro _ (Exists.intro _ (Exists.intro _ (Exists.intro _ (Exists.intro _ (And.intro rfl ?_))))))) | refine' Exists.intro _ (Exists.intro _ (Exists.intro _ (Exists.intro _ (Exists.intro _ (Exists.intro _ (Exists.intro _ (Exists.intro _ (And.intro rfl ?_)))))))) | refine' Exists.intro _ (Exists.intro _ (Exists.intro _ (Exists.intro _ (Exists.intro _ (Exists.intro _ (Exists.intro _ (Exists.intro _ (Exists.intro _ (And.intro rfl ?_))))))))))
local macro_rules | `(tactic| walk_at "w") => `(tactic| repeat' (w_strict (walk_at "w1")))
local macro_rules | `(tactic| walk_at "till if") => `(tactic| repeat' ((fail_if_success (with_reducible show WB _ (Stmt.If _ _ _ _ :: _) _ _)); w_strict (walk_at "w1")))
/-! JK: free pairs. -/
def pD (p : Nat × Nat) : D := .tup [.int p.1, .int p.2]
def prs (M : List Ar) (b s : Nat) : List (Nat × Nat) := ((List.range b).filter fun d => (step M s d).isNone).map fun d => (s, d)
def free (M : List Ar) (m b : Nat) : List (Nat × Nat) := (List.range m).flatMap (prs M b)
theorem prs_len (M : List Ar) (b s : Nat) : (prs M b s).length ≤ b := by
  unfold prs
  rw [List.length_map]
  have := List.length_filter_le (fun d => (step M s d).isNone) (List.range b)
  rwa [List.length_range] at this
theorem flat_len {α β : Type} {g : α → List β} {b : Nat} (h : ∀ x, (g x).length ≤ b) : ∀ l : List α, (l.flatMap g).length ≤ l.length * b
  | [] => by simp
  | x :: l => by
    rw [List.flatMap_cons, List.length_append, List.length_cons, Nat.succ_mul]
    have := flat_len h l
    have := h x
    omega
theorem mem_prs {M : List Ar} {b s : Nat} {p : Nat × Nat} : p ∈ prs M b s ↔ p.1 = s ∧ p.2 < b ∧ step M p.1 p.2 = none := by
  unfold prs
  rw [List.mem_map]
  constructor
  · rintro ⟨d, hd, rfl⟩
    rw [List.mem_filter, List.mem_range] at hd
    exact ⟨rfl, hd.1, by simpa using hd.2⟩
  · rintro ⟨h1, h2, h3⟩
    refine ⟨p.2, ?_, by rw [← h1]⟩
    rw [List.mem_filter, List.mem_range]
    exact ⟨h2, by rw [← h1, h3]; rfl⟩
theorem mem_free {M : List Ar} {m b : Nat} {p : Nat × Nat} : p ∈ free M m b ↔ p.1 < m ∧ p.2 < b ∧ step M p.1 p.2 = none := by
  unfold free
  rw [List.mem_flatMap]
  constructor
  · rintro ⟨s, hs, hp⟩
    rw [List.mem_range] at hs
    obtain ⟨h1, h2, h3⟩ := mem_prs.mp hp
    exact ⟨by omega, h2, h3⟩
  · rintro ⟨h1, h2, h3⟩
    exact ⟨p.1, List.mem_range.mpr h1, mem_prs.mpr ⟨rfl, h2, h3⟩⟩
theorem nodup_map {α β : Type} {g : α → β} (hg : ∀ x y, g x = g y → x = y) : ∀ {l : List α}, l.Nodup → (l.map g).Nodup
  | [], _ => .nil
  | x :: l, h => by
    rw [List.nodup_cons] at h
    rw [List.map_cons, List.nodup_cons]
    refine ⟨fun m => ?_, nodup_map hg h.2⟩
    obtain ⟨y, hy, e⟩ := List.mem_map.mp m
    exact h.1 (by rw [← hg y x e]; exact hy)
theorem free_nodup (M : List Ar) (b : Nat) : ∀ m, (free M m b).Nodup
  | 0 => .nil
  | m + 1 => by
    unfold free
    rw [List.range_succ, List.flatMap_append, List.nodup_append]
    refine ⟨free_nodup M b m, ?_, fun x hx y hy e => ?_⟩
    · show ([m].flatMap (prs M b)).Nodup
      rw [List.flatMap_cons, List.flatMap_nil, List.append_nil]
      unfold prs
      exact nodup_map (fun x y h => (Prod.mk.inj h).2) (List.nodup_range.filter _)
    · have h1 := (mem_free (M := M) (m := m) (b := b)).mp hx
      rw [List.flatMap_cons, List.flatMap_nil, List.append_nil] at hy
      have h2 := mem_prs.mp hy
      rw [e] at h1
      omega
section
variable {P : Program} {w : World} {K : PySem.W.Frag} {mg : Str → Option Value} {base : Heap} {C : Addr}
def spFree : DSp := fun ds Q _ => ∃ m b : Nat, ∃ M : List Ar, ds = [.int (m : Int), .int (b : Int), .dT (M.map kA) (M.map vA)] ∧ m ≤ 100 ∧ b ≤ 100 ∧ Q (.ol ((free M m b).map pD))
abbrev s_free : Stmt := top 41
theorem sc_free : FnScope ["many", "deeds", "arrows", "found", "stand", "deed"] ["many", "deeds", "arrows"] (defScope s_free) := ⟨rfl, rfl, rfl, by decide +kernel, rfl, by decide +kernel, by decide +kernel⟩
theorem ok_free {f : Addr} {fd : FuncData} (B : Bl mg) (F : Fun K "_law_free" "_law_free" s_free f fd) : FnOk P w K mg base (L2.CX P w) 1 f fd ["many", "deeds", "arrows"] (lift K spFree) := by
  refine def_ok F sc_free (fun ds Q E ⟨_, _, _, e, _⟩ => by rw [e]; rfl) fun ds Q E ⟨m, b, M, e, hm, hb, q⟩ => ?_
  subst e
  walk_at "w"
  refine wb_cons (ws_for [4] ?_)
  walk_at "w"
  rw [Int.toNat_natCast]
  refine ⟨fun pre Δ' => ∃ c4 c5, Δ' = [some (.int (m : Int)), some (.int (b : Int)), some (.dT (M.map kA) (M.map vA)), some (.ol ((free M pre.length b).map pD)), c4, c5], ⟨_, _, rfl⟩, ?_, ?_⟩
  · intro pre x post Δ' hsp ⟨c4, c5, hI⟩
    subst hI
    obtain ⟨rfl, hlt⟩ := rng_split hsp
    rw [Int.zero_add]
    walk_at "w"
    refine we_lc [("deed", 5)] (by dsimp only [Cf.blk]; decide +kernel) ?_
    walk_at "w"
    rw [Int.toNat_natCast]
    refine ⟨fun pre2 acc => acc = (((List.range b).take pre2.length).filter fun d => (step M pre.length d).isNone).map fun d => pD (pre.length, d), rfl, ?_, ?_⟩
    · intro pre2 y post2 acc hsp2 hle hI
      subst hI
      obtain ⟨rfl, hlt2⟩ := rng_split hsp2
      rw [Int.zero_add]
      walk_at "w"
      rw [in_A, snoc_len, rng_take hlt2, List.filter_append, List.map_append]
      cases hs : step M pre.length pre2.length with
      | none =>
        walk_at "w"
        rw [List.filter_cons_of_pos (by rw [hs]; rfl)]; rfl
      | some t =>
        refine if_f rfl ?_
        rw [List.filter_cons_of_neg (by rw [hs]; exact Bool.false_ne_true)]
        exact (List.append_nil _).symm
    · intro acc hle hI
      rw [rng_len, List.take_of_length_le (by rw [List.length_range]; exact Nat.le_refl _)] at hI
      subst hI
      walk_at "w"
      have h1 := flat_len (prs_len M b) (List.range pre.length)
      have h2 := prs_len M b pre.length
      have h3 : pre.length * b ≤ 100 * 100 := Nat.mul_le_mul (by omega) hb
      rw [List.length_range] at h1
      have e1 : (((List.range b).filter fun d => (step M pre.length d).isNone).map fun d => pD (pre.length, d)) = (prs M b pre.length).map pD := by unfold prs; rw [List.map_map]; rfl
      rw [e1]
      refine ⟨by rw [List.length_map, List.length_map, sizeLine_eq]; unfold free; omega, ?_⟩
      walk_at "w"
      have e2 : (free M pre.length b).map pD ++ (prs M b pre.length).map pD = (free M (pre.length + 1) b).map pD := by
        rw [← List.map_append]; unfold free
        rw [List.range_succ, List.flatMap_append]; simp
      rw [snoc_len, e2]
      exact ⟨_, _, rfl⟩
  · intro Δ' ⟨c4, c5, hI⟩
    subst hI
    rw [rng_len]
    walk_at "w"
    exact q
end
end K15
end
section
set_option Elab.async false
set_option linter.all false
set_option maxRecDepth 100000
set_option maxHeartbeats 4000000
namespace K15
open PySem PySem.Spec PyProof.Rows L2 DL
/-! JL: drawn rows, plain. -/
abbrev kyA (a : Ar) : Nat × Nat := (a.1, a.2.1)
theorem step_none {A : List Ar} {s d : Nat} : step A s d = none ↔ (s, d) ∉ A.map kyA := by
  unfold step
  rw [Option.map_eq_none_iff, List.find?_eq_none]
  constructor
  · intro h m
    obtain ⟨a, ha, e⟩ := List.mem_map.mp m
    exact h a ha (decide_eq_true ⟨(Prod.mk.inj e).1, (Prod.mk.inj e).2⟩)
  · intro h a ha k
    obtain ⟨h1, h2⟩ := of_decide_eq_true k
    exact h (List.mem_map.mpr ⟨a, ha, by rw [← h1, ← h2]⟩)
structure Ph1 (M : List Ar) (k b : Nat) : Prop where
  len : M.length + 1 = k
  nd : (M.map kyA).Nodup
  rg : ∀ a ∈ M, a.1 < a.2.2 ∧ a.2.1 < b ∧ a.2.2 < k
  al : ∀ t, 1 ≤ t → t < k → ∃ a ∈ M, a.2.2 = t
theorem Ph1.start (b : Nat) : Ph1 [] 1 b := ⟨rfl, .nil, by simp, fun t h1 h2 => by omega⟩
theorem Ph1.grow {M : List Ar} {k b : Nat} (h : Ph1 M k b) {p : Nat × Nat} (hp : p ∈ free M k b) : Ph1 (M ++ [(p.1, p.2, k)]) (k + 1) b := by
  obtain ⟨h1, h2, h3⟩ := mem_free.mp hp
  refine ⟨by rw [List.length_append]; have := h.len; show M.length + 1 + 1 = _; omega, ?_, ?_, ?_⟩
  · rw [List.map_append, List.nodup_append]
    refine ⟨h.nd, by simp, fun x hx y hy e => ?_⟩
    rw [List.map_cons, List.map_nil, List.mem_singleton] at hy
    subst hy
    exact step_none.mp h3 (by rw [show (p.1, p.2) = x from e.symm]; exact hx)
  · intro a ha
    rw [List.mem_append, List.mem_singleton] at ha
    rcases ha with ha | rfl
    · have := h.rg a ha; omega
    · exact ⟨h1, h2, Nat.lt_succ_self _⟩
  · intro t t1 t2
    by_cases e : t = k
    · exact ⟨_, List.mem_append_right _ (List.mem_singleton_self _), e.symm⟩
    · obtain ⟨a, ha, e⟩ := h.al t t1 (by omega)
      exact ⟨a, List.mem_append_left _ ha, e⟩
theorem Ph1.some {M : List Ar} {k b : Nat} (h : Ph1 M k b) (hb : 1 ≤ b) : free M k b ≠ [] := by
  intro e
  have : ((List.range k).map fun s => (s, 0)).length ≤ (M.map kyA).length := by
    refine nodup_le (nodup_map (fun x y h => (Prod.mk.inj h).1) List.nodup_range) fun x hx => ?_
    obtain ⟨s, hs, rfl⟩ := List.mem_map.mp hx
    rw [List.mem_range] at hs
    apply Classical.byContradiction
    intro n
    have : (s, 0) ∈ free M k b := mem_free.mpr ⟨hs, by omega, step_none.mpr n⟩
    rw [e] at this; cases this
  rw [List.length_map, List.length_map, List.length_range] at this
  have := h.len
  omega
structure Ph2 (M : List Ar) (n b : Nat) : Prop where
  nd : (M.map kyA).Nodup
  rg : ∀ a ∈ M, a.1 < n ∧ a.2.1 < b ∧ a.2.2 < n
  al : ∀ t, 1 ≤ t → t < n → ∃ a ∈ M, a.2.2 = t ∧ a.1 < t
theorem Ph1.two {M : List Ar} {n b : Nat} (h : Ph1 M n b) : Ph2 M n b :=
  ⟨h.nd, fun a ha => by have := h.rg a ha; omega, fun t t1 t2 => by
    obtain ⟨a, ha, e⟩ := h.al t t1 t2
    exact ⟨a, ha, e, by have := h.rg a ha; omega⟩⟩
theorem Ph2.grow {M : List Ar} {n b : Nat} (h : Ph2 M n b) {p : Nat × Nat} {t : Nat} (h1 : p.1 < n) (h2 : p.2 < b) (ht : t < n) (hp : p ∉ M.map kyA) : Ph2 (M ++ [(p.1, p.2, t)]) n b := by
  refine ⟨?_, ?_, ?_⟩
  · rw [List.map_append, List.nodup_append]
    refine ⟨h.nd, by simp, fun x hx y hy e => ?_⟩
    rw [List.map_cons, List.map_nil, List.mem_singleton] at hy
    subst hy
    exact hp (by rw [show p = _ from e.symm]; exact hx)
  · intro a ha
    rw [List.mem_append, List.mem_singleton] at ha
    rcases ha with ha | rfl
    · exact h.rg a ha
    · exact ⟨h1, h2, ht⟩
  · intro t t1 t2
    obtain ⟨a, ha, e⟩ := h.al t t1 t2
    exact ⟨a, List.mem_append_left _ ha, e⟩
theorem Ph2.len {M : List Ar} {n b : Nat} (h : Ph2 M n b) : M.length ≤ n * b := by
  have h1 := nodup_le h.nd (b := free [] n b) fun x hx => by
    obtain ⟨a, ha, rfl⟩ := List.mem_map.mp hx
    obtain ⟨r1, r2, _⟩ := h.rg a ha
    exact mem_free.mpr ⟨r1, r2, rfl⟩
  have h2 := flat_len (prs_len [] b) (List.range n)
  rw [List.length_map] at h1
  rw [List.length_range] at h2
  exact Nat.le_trans h1 h2
/-- the stands numbered anew -/
def renu (v : List Nat) (a : Ar) : Ar := (v.getD a.1 0, a.2.1, v.getD a.2.2 0)
theorem getD_lt {v : List Nat} {n i : Nat} (hv : v.Perm (List.range n)) (hi : i < n) : v.getD i 0 < n ∧ v[i]? = some (v.getD i 0) := by
  have hl := hv.length_eq
  rw [List.length_range] at hl
  have e : v[i]? = some (v[i]'(by omega)) := List.getElem?_eq_getElem (by omega)
  have e2 : v.getD i 0 = v[i]'(by omega) := by rw [List.getD_eq_getElem?_getD, e]; rfl
  rw [e2]
  exact ⟨List.mem_range.mp (hv.mem_iff.mp (List.getElem_mem _)), e⟩
theorem getD_inj {v : List Nat} {n i j : Nat} (hv : v.Perm (List.range n)) (hi : i < n) (hj : j < n) (h : v.getD i 0 = v.getD j 0) : i = j := by
  have nd : v.Nodup := hv.nodup_iff.mpr List.nodup_range
  have hl := hv.length_eq
  rw [List.length_range] at hl
  have e1 := (getD_lt hv hi).2
  have e2 := (getD_lt hv hj).2
  rw [h] at e1
  apply Classical.byContradiction
  intro ne
  have hp := List.pairwise_iff_getElem.mp nd
  have g1 := (List.getElem?_eq_some_iff.mp e1).2
  have g2 := (List.getElem?_eq_some_iff.mp e2).2
  rcases Nat.lt_or_gt_of_ne ne with k | k
  · exact hp i j (by omega) (by omega) k (by rw [g1, g2])
  · exact hp j i (by omega) (by omega) k (by rw [g1, g2])
theorem getD_sur {v : List Nat} {n s : Nat} (hv : v.Perm (List.range n)) (hs : s < n) : ∃ t, t < n ∧ v.getD t 0 = s := by
  have hl := hv.length_eq
  rw [List.length_range] at hl
  obtain ⟨t, ht, e⟩ := List.getElem_of_mem (hv.mem_iff.mpr (List.mem_range.mpr hs))
  refine ⟨t, by omega, ?_⟩
  rw [List.getD_eq_getElem?_getD, List.getElem?_eq_getElem ht, e]; rfl
theorem rows_of {xs : List Str} {M A : List Ar} {v : List Nat} {n b : Nat} (h : Ph2 M n b) (hv : v.Perm (List.range n)) (v0 : v.getD 0 0 = 0) (nm : NmsOk xs) (hx : xs.length = b) (hb : b ≤ 8) (hn1 : 1 ≤ n) (hn2 : n ≤ 60) (hnb : n * b < 64) (hA : A.Perm (M.map (renu v)))
    (so : (A.map aI).Pairwise fun x y => TS.code 64 x ≤ TS.code 64 y) : Rw xs n A := by
  have mem : ∀ a ∈ A, ∃ m ∈ M, a = renu v m := fun a ha => by
    obtain ⟨m, hm, e⟩ := List.mem_map.mp (hA.mem_iff.mp ha)
    exact ⟨m, hm, e.symm⟩
  have nd : (A.map fun a => (a.1, a.2.1)).Nodup := by
    refine (hA.map kyA).nodup_iff.mpr ?_
    rw [List.map_map]
    have : M.map (kyA ∘ renu v) = (M.map kyA).map fun p => (v.getD p.1 0, p.2) := by rw [List.map_map]; rfl
    rw [this, List.nodup_iff_pairwise_ne, List.pairwise_map]
    refine List.Pairwise.imp_of_mem ?_ h.nd
    intro p q hp hq ne e
    obtain ⟨a, ha, rfl⟩ := List.mem_map.mp hp
    obtain ⟨c, hc, rfl⟩ := List.mem_map.mp hq
    have r1 := h.rg a ha
    have r2 := h.rg c hc
    have e1 := (Prod.mk.inj e).1
    have e2 := (Prod.mk.inj e).2
    exact ne (Prod.ext (getD_inj hv r1.1 r2.1 e1) e2)
  have inA : ∀ m ∈ M, renu v m ∈ A := fun m hm => hA.mem_iff.mpr (List.mem_map.mpr ⟨m, hm, rfl⟩)
  have reach : ∀ k t, t ≤ k → t < n → ∃ r, goes A 0 r = some (v.getD t 0) := by
    intro k
    induction k with
    | zero => intro t h0 _; exact ⟨[], by rw [Nat.le_zero.mp h0, v0]; rfl⟩
    | succ k ih =>
      intro t hk ht
      by_cases h0 : t = 0
      · exact ⟨[], by rw [h0, v0]; rfl⟩
      obtain ⟨a, ha, e, hlt⟩ := h.al t (by omega) ht
      obtain ⟨r, hr⟩ := ih a.1 (by omega) (h.rg a ha).1
      refine ⟨r ++ [a.2.1], ?_⟩
      rw [goes_snoc, hr]
      have : (v.getD a.1 0, a.2.1, v.getD t 0) ∈ A := by rw [← e]; exact inA a ha
      exact (step_mem nd).mpr this
  refine ⟨nm, by omega, hn1, hn2, fun a ha => ?_, nd, ?_, ?_, fun s hs => ?_⟩
  · obtain ⟨m, hm, rfl⟩ := mem a ha
    obtain ⟨r1, r2, r3⟩ := h.rg m hm
    exact ⟨(getD_lt hv r1).1, by show m.2.1 < _; omega, (getD_lt hv r3).1⟩
  · rw [List.pairwise_map] at so; exact so
  · have := hA.length_eq
    rw [List.length_map] at this
    have := h.len
    omega
  · obtain ⟨t, ht, rfl⟩ := getD_sur hv hs
    exact reach t t (Nat.le_refl _) ht
theorem perm_map_inv {α β : Type} {g : α → β} {back : β → α} (hb : ∀ a, back (g a) = a) {m : List β} {l : List α} (h : m.Perm (l.map g)) : ∃ l' : List α, l'.Perm l ∧ m = l'.map g := by
  refine ⟨m.map back, ?_, ?_⟩
  · have := h.map back
    rw [List.map_map] at this
    have e : l.map (back ∘ g) = l := (List.map_congr_left fun a _ => hb a).trans (List.map_id _)
    rwa [e] at this
  · rw [List.map_map]
    refine ((List.map_congr_left fun y hy => ?_).trans (List.map_id m)).symm
    obtain ⟨a, _, rfl⟩ := List.mem_map.mp (h.mem_iff.mp hy)
    show g (back (g a)) = g a
    rw [hb]
def backA : List Int → Ar
  | [a, b, c] => (a.toNat, b.toNat, c.toNat)
  | _ => (0, 0, 0)
theorem back_aI (a : Ar) : backA (aI a) = a := by
  show ((a.1 : Int).toNat, (a.2.1 : Int).toNat, (a.2.2 : Int).toNat) = a
  rw [Int.toNat_natCast, Int.toNat_natCast, Int.toNat_natCast]
theorem perm_nums {n : Nat} (hn : 1 ≤ n) {m : List D} (h : m.Perm (rng 1 (n - 1))) : ∃ v : List Nat, D.int 0 :: m = iN v ∧ v.Perm (List.range n) ∧ v.getD 0 0 = 0 := by
  have e : rng 1 (n - 1) = ((List.range (n - 1)).map (· + 1)).map fun (k : Nat) => D.int (k : Int) := by
    unfold rng; rw [List.map_map]
    exact List.map_congr_left fun i _ => congrArg D.int (by show (1 : Int) + (i : Int) = ((i + 1 : Nat) : Int); omega)
  rw [e] at h
  obtain ⟨l, hl, rfl⟩ := perm_map_inv (back := fun d => match d with | .int i => i.toNat | _ => 0) (fun a => Int.toNat_natCast a) h
  refine ⟨0 :: l, rfl, ?_, rfl⟩
  obtain ⟨k, rfl⟩ : ∃ k, n = k + 1 := ⟨n - 1, by omega⟩
  rw [List.range_succ_eq_map]
  exact List.Perm.cons 0 hl
theorem nodup_cut {xs : List D} {lo hi : Option Int} (h : xs.Nodup) : (cutD xs lo hi).Nodup := h.sublist ((List.take_sublist _ _).trans (List.drop_sublist _ _))
theorem mem_cut {xs : List D} {lo hi : Option Int} {d : D} (h : d ∈ cutD xs lo hi) : d ∈ xs := ((List.take_sublist _ _).trans (List.drop_sublist _ _)).subset h
theorem pD_inj {p q : Nat × Nat} (h : pD p = pD q) : p = q := by
  unfold pD at h
  simp only [D.tup.injEq, List.cons.injEq, D.int.injEq, and_true] at h
  exact Prod.ext (by omega) (by omega)
end K15
end
section
set_option Elab.async false
set_option linter.all false
set_option maxRecDepth 100000
set_option maxHeartbeats 4000000
namespace K15
open PySem PySem.Spec PyProof.Rows L2 DL
local macro_rules | `(tactic| walk_at "len") => `(tactic| simp only [rng_len, iN_len, sL_len, iL_len, List.length_map, List.length_append, List.length_cons, List.length_nil, List.length_replicate, List.length_take, List.length_drop, Int.toNat_natCast, Nat.zero_add, Nat.reduceAdd, Nat.reduceLeDiff])
local macro_rules | `(tactic| walk_at "sz") => `(tactic| first | (with_reducible assumption) | (refine' sz ?_; omega) | (refine' sz ?_; walk_at "len"; (try omega); done))
local macro_rules | `(tactic| walk_at "side") => `(tactic| first | (with_reducible assumption) | ((with_reducible show isOk _ _); first | assumption | exact isOk_bl | exact isOk_int | exact isOk_str | exact isOk_non) | (with_reducible rfl) | omega | walk_at "sz" | ((with_reducible show _ = _); rfl) | (walk_at "len"; (try omega); done))
local macro_rules | `(tactic| walk_at "ix") => `(tactic| ((try dsimp only [Cf.blk, lamC]); (with_reducible first | exact ix0 | exact ix1 | exact ix2 | exact ix3 | exact ix4 | exact ix5 | exact ix6 | exact ix7 | exact ix8 | exact ix9 | exact ix10 | exact ix11 | exact ix12 | exact ix13 | exact ix14 | exact ix15 | exact ix16 | exact ix17 | exact ix18 | exact ix19)))
local macro_rules | `(tactic| walk_at "vis") => `(tactic| first | exact .inl rfl | exact .inr (.inl rfl) | exact .inr (.inr rfl))
local macro_rules | `(tactic| walk_at "loc") => `(tactic| first | exact .inl rfl | exact .inr rfl)
local macro_rules | `(tactic| walk_at "hyp") => `(tactic| ((try dsimp only [Cf.blk, lamC]); with_reducible assumption))
local macro_rules | `(tactic| walk_at "j") => `(tactic| first | exact Nat.le_of_ble_eq_true rfl | (dsimp only [Cf.blk, lamC]; omega))
local macro_rules | `(tactic| walk_at "cl") => `(tactic| first | exact (CFx.cls (by walk_at "hyp")) | walk_at "hyp")
local macro_rules | `(tactic| walk_at "na") => `(tactic| first | exact CFx.no (by walk_at "hyp") _ (by repeat (first | exact List.Mem.head _ | apply List.Mem.tail)) | walk_at "hyp")
local macro_rules | `(tactic| walk_at "kw") => `(tactic| with_reducible first | exact boot_len | exact boot_isinstance | exact boot_all | exact boot_any | exact boot_sum | exact boot_min | exact boot_max | exact boot_sorted | exact boot_abs | exact boot_repr)
local macro_rules | `(tactic| walk_at "kty") => `(tactic| with_reducible first | exact boot_tuple | exact boot_list | exact boot_int | exact boot_str | exact boot_bool)
local macro_rules | `(tactic| walk_at "no") => `(tactic| ((try dsimp only [Cf.blk, lamC]); with_reducible first | assumption | exact Bl.isinstance (by assumption) | exact Bl.len (by assumption) | exact Bl.int (by assumption) | exact Bl.bool (by assumption) | exact Bl.str (by assumption) | exact Bl.list (by assumption) | exact Bl.tuple (by assumption) | exact Bl.range (by assumption) | exact Bl.all (by assumption) | exact Bl.any (by assumption) | exact Bl.zip (by assumption) | exact Bl.enumerate (by assumption) | exact Bl.min (by assumption)))
local macro_rules | `(tactic| walk_at "wb") => `(tactic| first
  | ((with_reducible show WB _ [] _ _); refine' wb_nil ?_; try dsimp only [List.set_cons_zero, List.set_cons_succ])
  | (refine' wb_cons ?_; walk_at "ws"))
local macro_rules | `(tactic| walk_at "ws") => `(tactic| first
  | ((with_reducible show WS _ (Stmt.If _ _ _ _) _ _); refine' ws_if ?_)
  | ((with_reducible show WS _ (Stmt.Return (some (Expr.Name _ _)) _) _ _); refine' ws_retO _ ?a ?b ?c ?h; (case a => walk_at "ix"); (case b => walk_at "vis"); (case c => exact rfl); (all_goals (try dsimp only)))
  | ((with_reducible show WS _ (Stmt.Return (some _) _) _ _); refine' ws_ret ?_)
  | ((with_reducible show WS _ (Stmt.Return none _) _ _); refine' ws_retN ?_)
  | ((with_reducible show WS _ (Stmt.Assign [Expr.Name _ _] (Expr.ListComp _ _ _ _) _) _ _); fail "a comprehension")
  | ((with_reducible show WS _ (Stmt.Assign [Expr.Name _ _] (Expr.Dict [] [] _) _) _ _); fail "a dict")
  | ((with_reducible show WS _ (Stmt.Assign [Expr.Name _ _] _ _) _ _); refine' ws_set _ ?a ?b ?h; (case a => walk_at "ix"); (case b => walk_at "loc"))
  | ((with_reducible show WS _ (Stmt.Assign [Expr.Attribute _ _ _] _ _) _ _); refine' ws_fld _ ?a ?b ?c ?d ?e ?f ?g ?h; (case a => walk_at "ix"); (case b => walk_at "vis"); (case c => exact rfl); (case d => walk_at "cl"); (case e => walk_at "na"); (case f => exact rfl); (case g => decide))
  | ((with_reducible show WS _ (Stmt.AugAssign (Expr.Name _ _) Operator.Add _ _) _ _); refine' ws_augAdd _ ?a ?b ?c ?h; (case a => walk_at "ix"); (case b => walk_at "loc"); (case c => exact rfl))
  | ((with_reducible show WS _ (Stmt.Expr (Expr.Call (Expr.Attribute (Expr.Name _ _) "append" _) _ _ _) _) _ _); refine' ws_app _ ?a ?b ?c ?h; (case a => walk_at "ix"); (case b => walk_at "vis"); (case c => exact rfl))
  | ((with_reducible show WS _ (Stmt.Expr (Expr.Call (Expr.Attribute (Expr.Name _ _) "extend" _) _ _ _) _) _ _); refine' ws_ext _ ?a ?b ?c ?h; (case a => walk_at "ix"); (case b => walk_at "vis"); (case c => exact rfl))
  | ((with_reducible show WS _ (Stmt.Expr (Expr.Constant (Const.str _) _ _) _) _ _); refine' ws_doc ?_)
  | ((with_reducible show WS _ (Stmt.Expr (Expr.Call (Expr.Name _ _) _ _ _) _) _ _); refine' ws_expr (Q := fun _ => True) ?_)
  | ((with_reducible show WS _ (Stmt.Assign [Expr.Subscript (Expr.Name _ _) _ _] _ _) _ _); first
    | (refine' ws_putT _ ?a ?b ?c ?h; (case a => walk_at "ix"); (case b => walk_at "vis"); (case c => exact rfl))
    | (refine' ws_putK _ ?a ?b ?c ?h; (case a => walk_at "ix"); (case b => walk_at "vis"); (case c => exact rfl))
    | (refine' ws_item _ ?a ?b ?c ?h; (case a => walk_at "ix"); (case b => walk_at "vis"); (case c => exact rfl)))
  | ((with_reducible show WS _ (Stmt.Raise _ _ _) _ _); refine' ws_raise ?m ?j ?g ?h (hn := ?n); (case m => walk_at "hyp"); (case n => decide); (case j => walk_at "j"); (case g => exact rfl))
  | ((with_reducible show WS _ (Stmt.Pass _) _ _); refine' ws_pass ?_)
  | ((with_reducible show WS _ (Stmt.Break _) _ _); refine' ws_break ?_)
  | ((with_reducible show WS _ (Stmt.Continue _) _ _); refine' ws_cont ?_))
local macro_rules | `(tactic| walk_at "lam") => `(tactic| first
  | (refine' we_caught 16 ?F rfl rfl (Nat.le_of_ble_eq_true rfl) rfl (by dsimp only; decide +kernel) ?h; (case F => walk_at "hyp"))
  | (refine' we_caught 15 ?F rfl rfl (Nat.le_of_ble_eq_true rfl) rfl (by dsimp only; decide +kernel) ?h; (case F => walk_at "hyp"))
  | (refine' we_caught 14 ?F rfl rfl (Nat.le_of_ble_eq_true rfl) rfl (by dsimp only; decide +kernel) ?h; (case F => walk_at "hyp"))
  | (refine' we_caught 13 ?F rfl rfl (Nat.le_of_ble_eq_true rfl) rfl (by dsimp only; decide +kernel) ?h; (case F => walk_at "hyp"))
  | (refine' we_caught 12 ?F rfl rfl (Nat.le_of_ble_eq_true rfl) rfl (by dsimp only; decide +kernel) ?h; (case F => walk_at "hyp"))
  | (refine' we_caught 11 ?F rfl rfl (Nat.le_of_ble_eq_true rfl) rfl (by dsimp only; decide +kernel) ?h; (case F => walk_at "hyp"))
  | (refine' we_caught 10 ?F rfl rfl (Nat.le_of_ble_eq_true rfl) rfl (by dsimp only; decide +kernel) ?h; (case F => walk_at "hyp"))
  | (refine' we_caught 9 ?F rfl rfl (Nat.le_of_ble_eq_true rfl) rfl (by dsimp only; decide +kernel) ?h; (case F => walk_at "hyp"))
  | (refine' we_caught 8 ?F rfl rfl (Nat.le_of_ble_eq_true rfl) rfl (by dsimp only; decide +kernel) ?h; (case F => walk_at "hyp"))
  | (refine' we_caught 7 ?F rfl rfl (Nat.le_of_ble_eq_true rfl) rfl (by dsimp only; decide +kernel) ?h; (case F => walk_at "hyp"))
  | (refine' we_caught 6 ?F rfl rfl (Nat.le_of_ble_eq_true rfl) rfl (by dsimp only; decide +kernel) ?h; (case F => walk_at "hyp"))
  | (refine' we_caught 5 ?F rfl rfl (Nat.le_of_ble_eq_true rfl) rfl (by dsimp only; decide +kernel) ?h; (case F => walk_at "hyp"))
  | (refine' we_caught 4 ?F rfl rfl (Nat.le_of_ble_eq_true rfl) rfl (by dsimp only; decide +kernel) ?h; (case F => walk_at "hyp"))
  | (refine' we_caught 3 ?F rfl rfl (Nat.le_of_ble_eq_true rfl) rfl (by dsimp only; decide +kernel) ?h; (case F => walk_at "hyp")))
local macro_rules | `(tactic| walk_at "we") => `(tactic| first
  | ((with_reducible show WE _ (Expr.Name _ _) _ _); first
    | (refine' we_var _ ?a ?b ?c ?d ?h; (case a => walk_at "ix"); (case b => walk_at "vis"); (case c => first | exact rfl | exact no_at rfl (by assumption)); (case d => first | exact rfl | assumption); (all_goals (try dsimp only)))
    | (refine' we_ty ?a ?b ?c ?h; (case c => walk_at "kty"); (case b => walk_at "no"); (case a => exact rfl); (all_goals (try dsimp only)))
    | (refine' we_cls ?a ?b ?h; (case b => first | exact (CFx.g (by walk_at "hyp")) | walk_at "hyp"); (case a => exact rfl); (all_goals (try dsimp only))))
  | ((with_reducible show WE _ (Expr.Constant _ _ _) _ _); first | refine' we_int ?_ | refine' we_str ?_ | refine' we_bl ?_ | refine' we_non ?_)
  | ((with_reducible show WE _ (Expr.Tuple _ _ _) _ _); refine' we_tup ?_)
  | ((with_reducible show WE _ (Expr.List _ _) _ _); refine' we_lst ?_)
  | ((with_reducible show WE _ (Expr.BinOp _ _ _ _) _ _); refine' we_bin ?_)
  | ((with_reducible show WE _ (Expr.UnaryOp UnaryOp.USub _ _) _ _); refine' we_neg ?_)
  | ((with_reducible show WE _ (Expr.UnaryOp UnaryOp.Not _ _) _ _); refine' we_not ?_)
  | ((with_reducible show WE _ (Expr.BoolOp _ [_] _) _ _); refine' we_one ?_)
  | ((with_reducible show WE _ (Expr.BoolOp BoolOp.And _ _) _ _); refine' we_and ?_)
  | ((with_reducible show WE _ (Expr.BoolOp BoolOp.Or _ _) _ _); refine' we_or ?_)
  | ((with_reducible show WE _ (Expr.Compare _ [_] _ _) _ _); refine' we_cmp ?_)
  | ((with_reducible show WE _ (Expr.Compare _ [_, _] _ _) _ _); refine' we_chain ?_)
  | ((with_reducible show WE _ (Expr.IfExp _ _ _ _) _ _); refine' we_if ?_)
  | ((with_reducible show WE _ (Expr.Subscript _ (Expr.Slice _ _ _ _) _) _ _); refine' we_slice ?_)
  | ((with_reducible show WE _ (Expr.Subscript (Expr.Name _ _) _ _) _ _); first
    | (refine' we_oix (d0 := .oK _ _ _) _ ?a ?b ?c rfl ?h; (case a => walk_at "ix"); (case b => walk_at "vis"); (case c => exact rfl))
    | (refine' we_oix (d0 := .oT _ _ _) _ ?a ?b ?c rfl ?h; (case a => walk_at "ix"); (case b => walk_at "vis"); (case c => exact rfl))
    | (refine' we_olx _ ?a ?b ?c ?h; (case a => walk_at "ix"); (case b => walk_at "vis"); (case c => exact rfl))
    | refine' we_ix ?_)
  | ((with_reducible show WE _ (Expr.Subscript _ _ _) _ _); refine' we_ix ?_)
  | ((with_reducible show WE _ (Expr.Attribute (Expr.Name _ _) _ _) _ _); refine' we_fldO _ ?a ?b ?c ?d ?e ?f ?h; (case a => walk_at "ix"); (case b => walk_at "vis"); (case c => exact rfl); (case d => walk_at "cl"); (case e => walk_at "na"); (case f => exact rfl); (all_goals (try dsimp only)))
  | ((with_reducible show WE _ (Expr.Attribute _ _ _) _ _); refine' we_fld ?_)
  | ((with_reducible show WE _ (Expr.Call (Expr.Attribute _ "get" _) _ _ _) _ _); refine' we_dget1 ?_)
  | ((with_reducible show WE _ (Expr.Call (Expr.Attribute _ "join" _) _ _ _) _ _); refine' we_join ?_)
  | ((with_reducible show WE _ (Expr.Call (Expr.Name "len" _) [Expr.Name _ _] _ _) _ _); first
    | (refine' we_olen _ ?g ?m boot_len ?a ?b ?c ?_; (case a => walk_at "ix"); (case b => walk_at "vis"); (case c => exact rfl); (case m => walk_at "no"); (case g => exact rfl); (all_goals (try dsimp only)))
    | (refine' we_lenK _ ?g ?m boot_len ?a ?b ?c ?_; (case a => walk_at "ix"); (case b => walk_at "vis"); (case c => exact rfl); (case m => walk_at "no"); (case g => exact rfl); (all_goals (try dsimp only))))
  | ((with_reducible show WE _ (Expr.Call (Expr.Name _ _) [Expr.Lambda _ _ _ _] _ _) _ _); walk_at "lam")
  | ((with_reducible show WE _ (Expr.Call (Expr.Name _ _) _ _ _) _ _); first
    | (refine' we_call ?F ?hj ?hg ?h; (case F => walk_at "hyp"); (case hj => walk_at "j"); (case hg => exact rfl))
    | (refine' we_callT ?F ?hl ?hj ?hg ?h; (case F => walk_at "hyp"); (case hl => exact rfl); (case hj => walk_at "j"); (case hg => exact rfl))
    | (refine' we_make ?F ?hj ?hg ?h; (case F => walk_at "hyp"); (case hj => walk_at "j"); (case hg => exact rfl))
    | (refine' we_of_wo (wo_callB ?a ?b ?c ?h); (case c => walk_at "kw"); (case b => walk_at "no"); (case a => exact rfl))
    | (refine' we_of_wo (wo_callTy ?a ?b ?c ?h); (case c => walk_at "kty"); (case b => walk_at "no"); (case a => exact rfl))))
local macro_rules | `(tactic| walk_at "wo") => `(tactic| first
  | ((with_reducible show WO _ (Expr.Tuple _ _ _) _ _); refine' wo_tup ?_)
  | ((with_reducible show WO _ (Expr.List _ _) _ _); refine' wo_lst ?_)
  | ((with_reducible show WO _ (Expr.BinOp _ _ _ _) _ _); refine' wo_bin ?_)
  | ((with_reducible show WO _ (Expr.IfExp _ _ _ _) _ _); refine' wo_if ?_)
  | ((with_reducible show WO _ (Expr.Subscript _ (Expr.Slice _ _ _ _) _) _ _); refine' wo_slice ?_)
  | ((with_reducible show WO _ (Expr.Call (Expr.Name _ _) _ _ _) _ _); first
    | (refine' wo_call ?F ?hj ?hg ?h; (case F => walk_at "hyp"); (case hj => walk_at "j"); (case hg => exact rfl))
    | (refine' wo_callT ?F ?hl ?hj ?hg ?h; (case F => walk_at "hyp"); (case hl => exact rfl); (case hj => walk_at "j"); (case hg => exact rfl))
    | (refine' wo_make ?F ?hj ?hg ?h; (case F => walk_at "hyp"); (case hj => walk_at "j"); (case hg => exact rfl))
    | (refine' wo_callB ?a ?b ?c ?h; (case c => walk_at "kw"); (case b => walk_at "no"); (case a => exact rfl))
    | (refine' wo_callTy ?a ?b ?c ?h; (case c => walk_at "kty"); (case b => walk_at "no"); (case a => exact rfl)))
  | ((with_reducible show WO _ (Expr.ListComp _ _ _ _) _ _); fail "a comprehension")
  | ((with_reducible show WO _ (Expr.Dict _ _ _) _ _); fail "a dict")
  | refine' wo_of_we ?_)
local macro_rules | `(tactic| walk_at "wt") => `(tactic| first
  | ((with_reducible show WT _ (Expr.Compare _ [_] [Expr.Name _ _] _) _ _); first
    | (refine' wt_oin (d0 := .oK _ _ _) _ ?a ?b ?c rfl ?h; (case a => walk_at "ix"); (case b => walk_at "vis"); (case c => exact rfl))
    | (refine' wt_oin (d0 := .oT _ _ _) _ ?a ?b ?c rfl ?h; (case a => walk_at "ix"); (case b => walk_at "vis"); (case c => exact rfl))
    | (refine' wt_oni (d0 := .oK _ _ _) _ ?a ?b ?c rfl ?h; (case a => walk_at "ix"); (case b => walk_at "vis"); (case c => exact rfl))
    | (refine' wt_oni (d0 := .oT _ _ _) _ ?a ?b ?c rfl ?h; (case a => walk_at "ix"); (case b => walk_at "vis"); (case c => exact rfl))
    | refine' wt_cmp ?_)
  | ((with_reducible show WT _ (Expr.Compare _ [_] _ _) _ _); refine' wt_cmp ?_)
  | ((with_reducible show WT _ (Expr.Compare _ [_, _] _ _) _ _); refine' wt_chain ?_)
  | ((with_reducible show WT _ (Expr.BoolOp _ _ _) _ _); refine' wt_pw ?_)
  | ((with_reducible show WT _ (Expr.UnaryOp UnaryOp.Not _ _) _ _); refine' wt_not ?_)
  | ((with_reducible show WT _ (Expr.Name _ _) _ _); refine' wt_truth ?_)
  | ((with_reducible show WT _ (Expr.Call _ _ _ _) _ _); refine' wt_truth ?_)
  | ((with_reducible show WT _ (Expr.Subscript _ _ _) _ _); refine' wt_truth ?_)
  | ((with_reducible show WT _ (Expr.Attribute _ _ _) _ _); refine' wt_truth ?_))
local macro_rules | `(tactic| walk_at "ww") => `(tactic| first
  | ((with_reducible show WW _ (Expr.BoolOp BoolOp.And [_] _) _ _); refine' ww_and1 ?_)
  | ((with_reducible show WW _ (Expr.BoolOp BoolOp.Or [_] _) _ _); refine' ww_or1 ?_)
  | ((with_reducible show WW _ (Expr.BoolOp BoolOp.And _ _) _ _); refine' ww_and ?_)
  | ((with_reducible show WW _ (Expr.BoolOp BoolOp.Or _ _) _ _); refine' ww_or ?_))
local macro_rules | `(tactic| walk_at "wa") => `(tactic| first
  | ((with_reducible show WA _ [] _ _); refine' wa_nil ?_; try dsimp only)
  | ((with_reducible show WA _ (Expr.Starred _ _ :: _) _ _); refine' wa_star ?_)
  | refine' wa_cons ?_)
local macro_rules | `(tactic| walk_at "wop") => `(tactic| first
  | ((with_reducible show WOp _ none _ _); unfold WOp; try dsimp only)
  | ((with_reducible show WOp _ (some _) _ _); unfold WOp))
local macro_rules | `(tactic| walk_at "wg") => `(tactic| first
  | ((with_reducible show WG _ _ (Expr.Name _ _) _ _ _); refine' wg_name _ ?a ?b ?c ?h; (case a => walk_at "ix"); (case b => walk_at "loc"); (case c => decide); (all_goals (try dsimp only [List.set_cons_zero, List.set_cons_succ, wipeD, List.map_cons, List.map_nil])))
  | ((with_reducible show WG _ _ (Expr.Tuple _ _ _) _ _ _); refine' wg_tup rfl ?_)
  | ((with_reducible show WGs _ _ [] _ _ _); refine' wgs_nil ?_; (try dsimp only [List.set_cons_zero, List.set_cons_succ, wipeD, List.map_cons, List.map_nil]))
  | ((with_reducible show WGs _ _ (_ :: _) _ _ _); refine' wgs_cons ?_))
local macro_rules | `(tactic| walk_at "vo") => `(tactic| first
  | ((with_reducible show VO _ (binaryOp Operator.Add) _ _ _); first | refine vo_add ?_ | refine vo_catT ?_ ?_ | refine vo_catL ?_ ?_ | refine vo_addS ?_ ?_)
  | ((with_reducible show VO _ (binaryOp Operator.Sub) _ _ _); refine vo_sub ?_)
  | ((with_reducible show VO _ (binaryOp Operator.Mult) _ _ _); refine vo_mul ?_ ?_)
  | ((with_reducible show VO _ (compareOp CmpOp.Lt) _ _ _); refine vo_lt ?_)
  | ((with_reducible show VO _ (compareOp CmpOp.LtE) _ _ _); refine vo_le ?_)
  | ((with_reducible show VO _ (compareOp CmpOp.Gt) _ _ _); refine vo_gt ?_)
  | ((with_reducible show VO _ (compareOp CmpOp.GtE) _ _ _); refine vo_ge ?_)
  | ((with_reducible show VO _ (compareOp CmpOp.Eq) _ _ _); first | refine vo_eqi ?_ | refine vo_eqS ?_)
  | ((with_reducible show VO _ (compareOp CmpOp.NotEq) _ _ _); first | refine vo_nei ?_ | refine vo_neS ?_)
  | ((with_reducible show VO _ (compareOp CmpOp.In) _ _ _); first | refine' vo_din (DkAt.fT rfl) ?_ | refine' vo_din (DkAt.dK rfl) ?_ | refine' vo_din (DkAt.fK rfl) ?_ | refine' vo_din (DkAt.dT rfl) ?_ | refine' vo_inS Sq.tup ?_ | refine' vo_inS Sq.lst ?_)
  | ((with_reducible show VO _ (compareOp CmpOp.NotIn) _ _ _); first | refine' vo_dni (DkAt.fT rfl) ?_ | refine' vo_dni (DkAt.dK rfl) ?_ | refine' vo_dni (DkAt.fK rfl) ?_ | refine' vo_dni (DkAt.dT rfl) ?_ | refine' vo_niS Sq.tup ?_ | refine' vo_niS Sq.lst ?_)
  | ((with_reducible show VO _ (compareOp CmpOp.Is) _ _ _); first | refine vo_isN ?_ | refine vo_isB ?_)
  | ((with_reducible show VO _ (compareOp CmpOp.IsNot) _ _ _); first | refine vo_notN ?_ | refine vo_nisB ?_))
local macro_rules | `(tactic| walk_at "vc") => `(tactic| first
  | ((with_reducible show VC _ (Value.builtin "len") _ _); first | refine vc_lenL ?_ | refine vc_lenT ?_ | refine vc_lenS ?_ ?_ | refine vc_lenA ?_ | refine vc_lenScr ?_ | refine vc_lenDK ?_ | (refine' vc_lenQ ?h ?_; (case h => assumption)))
  | ((with_reducible show VC _ (Value.builtin "isinstance") _ _); first
    | refine vc_isi (k := true) rfl (by decide +kernel) ?_ | refine vc_isi (k := false) rfl (by decide +kernel) ?_
    | refine vc_isiT ["list", "tuple"] (k := true) rfl (by decide +kernel) ?_ | refine vc_isiT ["list", "tuple"] (k := false) rfl (by decide +kernel) ?_
    | refine vc_isiI (CFx.cl (by walk_at "hyp")) (CFx.isC (by walk_at "hyp")) ?_)
  | ((with_reducible show VC _ (Value.type "tuple") _ _); first | refine' vc_tupL ?_ | refine' vc_tupT ?_ | (refine' vc_tupS ?h ?_; (case h => assumption)))
  | ((with_reducible show VC _ (Value.type "list") _ _); first | refine vc_lstL ?_ | refine vc_lstT ?_ | refine vc_lstScr ?_ | (refine' vc_lstQ ?h ?_; (case h => assumption)))
  | ((with_reducible show VC _ (Value.type "int") _ _); first | refine vc_int ?_ | refine vc_intB ?_)
  | ((with_reducible show VC _ (Value.type "str") _ _); first | refine vc_strS ?_)
  | ((with_reducible show VC _ (Value.builtin "all") _ _); refine' vc_all ?_)
  | ((with_reducible show VC _ (Value.builtin "any") _ _); refine' vc_any ?_)
  | ((with_reducible show VC _ (Value.builtin "sum") _ _); refine' vc_sum ?_)
  | ((with_reducible show VC _ (Value.builtin "min") _ _); refine' vc_min ?_)
  | ((with_reducible show VC _ (Value.builtin "max") _ _); refine' vc_max ?_))
local macro_rules | `(tactic| walk_at "w1") => `(tactic| first
  | ((with_reducible show WE _ _ _ _); walk_at "we")
  | ((with_reducible show WA _ _ _ _); walk_at "wa")
  | ((with_reducible show WO _ _ _ _); walk_at "wo")
  | ((with_reducible show WT _ _ _ _); walk_at "wt")
  | ((with_reducible show WW _ _ _ _); walk_at "ww")
  | ((with_reducible show WB _ _ _ _); walk_at "wb")
  | ((with_reducible show WS _ _ _ _); walk_at "ws")
  | ((with_reducible show WG _ _ _ _ _ _); walk_at "wg")
  | ((with_reducible show WGs _ _ _ _ _ _); walk_at "wg")
  | ((with_reducible show WOp _ _ _ _); walk_at "wop")
  | ((with_reducible show WTs _ _ _ _); unfold WTs; try dsimp only)
  | ((with_reducible show VO _ _ _ _ _); walk_at "vo")
  | ((with_reducible show VC _ _ _ _); walk_at "vc")
  | ((with_reducible show _ ≤ sizeLine); walk_at "sz")
  | ((with_reducible show VI _ _ _ _); first | (refine' vi_tup ?h ?_; (case h => exact rfl)) | (refine' vi_lst ?h ?_; (case h => exact rfl)) | (refine' vi_lsA ?h ?_; (case h => exact rfl)) | (refine' vi_dict ?h ?_; (case h => exact DkAt.dK rfl)) | (refine' vi_dict ?h ?_; (case h => exact DkAt.fT rfl)))
  | ((with_reducible show VS _ _ _ _ _); first | refine' vs_tup ?_ | refine' vs_lst ?_)
  | ((with_reducible show IsSeq _ _ ∧ _); first | refine' And.intro (Or.inl rfl) ?_ | refine' And.intro (Or.inr rfl) ?_ | (refine' And.intro ?p ?_; (case p => assumption)))
  | ((with_reducible show _ ∧ _); refine' And.intro ?p ?_; (case p => walk_at "side"))
  | ((with_reducible show ∃ _, DkAt _ _ _ ∧ _); first | refine' ⟨_, DkAt.fT rfl, ?_⟩ | refine' ⟨_, DkAt.dK rfl, ?_⟩ | refine' ⟨_, DkAt.fK rfl, ?_⟩ | refine' ⟨_, DkAt.dT rfl, ?_⟩)
  | ((with_reducible show ∃ _, OkAt _ _ _ ∧ _); first | refine' ⟨_, OkAt.oT rfl, ?_⟩ | refine' ⟨_, OkAt.oK rfl, ?_⟩)
  | ((with_reducible show ∃ _, Its _ _ ∧ _); first | refine' ⟨_, Its.lst, ?_⟩ | refine' ⟨_, Its.tup, ?_⟩ | refine' ⟨_, Its.lsA, ?_⟩ | refine' ⟨_, Its.scr, ?_⟩ | (refine' ⟨_, Its.seq ?h, ?_⟩; (case h => assumption)))
  | ((with_reducible show if _ = true then _ else _); first | (refine if_t rfl ?_; try dsimp only) | (refine if_f rfl ?_; try dsimp only))
  | (refine' ⟨_, _, _, _, rfl, ?cl, ?na, ?lk, ?_⟩; (case cl => walk_at "cl"); (case na => walk_at "na"); (case lk => first | exact rfl | assumption); (all_goals (try dsimp only)))
  | ((with_reducible show WI _ _ _ _ _); walk_at "wi")
  | ((with_reducible show ∃ _, (_ : D) = _ ∧ _); refine' ⟨_, rfl, ?_⟩)
  | ((with_reducible show ∃ _, (_ : Option Bool) = some _ ∧ _); refine' ⟨_, rfl, ?_⟩)
  | ((with_reducible show ∃ _, atI _ _ = some _ ∧ _); refine' ⟨_, rfl, ?_⟩)
  | ((with_reducible show ∃ (_ : D) (_ : D), (_ : D) = _ ∧ _); refine' ⟨_, _, rfl, ?_⟩)
  | ((with_reducible show ∃ _, (_ : List D) = _ ∧ _); refine' ⟨_, rfl, ?_⟩)
  | ((with_reducible show ∃ _ _, (_ : List D) = _ ∧ _); refine' ⟨_, _, rfl, ?_⟩)
  | (with_reducible exact Bool.not_true)
  | (with_reducible exact (rfl : false = false))
  | walk_at "own"
  | ((fail_if_success (with_reducible show ∃ _, _)); walk_at "sp"))
local macro_rules | `(tactic| walk_at "wi") => `(tactic| first
  | ((with_reducible show WI _ _ (Expr.Call (Expr.Name "range" _) [_] _ _) _ _); refine' wi_range1 ?a ?b ?_; (case b => walk_at "no"); (case a => exact rfl))
  | ((with_reducible show WI _ _ (Expr.Call (Expr.Name "range" _) [_, _] _ _) _ _); refine' wi_range2 ?a ?b ?_; (case b => walk_at "no"); (case a => exact rfl))
  | ((with_reducible show WI _ _ (Expr.Call (Expr.Name "zip" _) _ _ _) _ _); refine' wi_zipX ?a ?b ?_; (case b => walk_at "no"); (case a => exact rfl))
  | ((with_reducible show WI _ _ (Expr.Call (Expr.Name "enumerate" _) _ _ _) _ _); refine' wi_enumT ?a ?b ?_; (case b => walk_at "no"); (case a => exact rfl))
  | refine' wi_its ?_)
local macro_rules | `(tactic| walk_at "own") => `(tactic| fail "no own step")
local macro_rules | `(tactic| walk_at "sp") => `(tactic| first | refine' Exists.intro _ (And.intro rfl ?_) | refine' Exists.intro _ (Exists.intro _ (And.intro rfl ?_)) | refine' Exists.intro _ (Exists.intro _ (Exists.intro _ (And.intro rfl ?_))) | refine' Exists.intro _ (Exists.intro _ (Exists.intro _ (Exists.intro _ (And.intro rfl ?_)))) | refine' Exists.intro _ (Exists.intro _ (Exists.intro _ (Exists.intro _ (Exists.intro _ (And.intro rfl ?_))))) | refine' Exists.intro _ (Exists.intro _ (Exists.intro _ (Exists.intro _ (Exists.intro _ (Exists.intro _ (And.intro rfl ?_)))))) | refine' Exists.intro _ (Exists.intro _ (Exists.intro _ (Exists.intro _ (Exists.intro _ (Exists.intro _ (Exists.intro _ (And.intro rfl ?_))))))) | refine' Exists.intro _ (Exists.intro _ (Exists.intro _ (Exists.intro _ (Exists.intro _ (Exists.intro _ (Exists.intro _ (Exists.intro _ (And.intro rfl ?_)))))))) | refine' Exists.intro _ (Exists.intro _ (Exists.intro _ (Exists.intro _ (Exists.intro _ (Exists.intro _ (Exists.intro _ (Exists.intro _ (Exists.intro _ (And.intro rfl ?_))))))))))
local macro_rules | `(tactic| walk_at "w") => `(tactic| repeat' (w_strict (walk_at "w1")))
local macro_rules | `(tactic| walk_at "till if") => `(tactic| repeat' ((fail_if_success (with_reducible show WB _ (Stmt.If _ _ _ _ :: _) _ _)); w_strict (walk_at "w1")))
/-! JM: drawn rows, walked. -/
section
variable {P : Program} {w : World} {K : PySem.W.Frag} {mg : Str → Option Value} {base : Heap} {C : Addr}
theorem tup_pD (l : List (Nat × Nat)) : tupOnlys (l.map pD) = true := by
  induction l with
  | nil => rfl
  | cons p l ih => show ((pD p).tupOnly && tupOnlys (l.map pD)) = true; rw [ih]; rfl
def kP (p : Nat × Nat) : List Key := [.inl (p.1 : Int), .inl (p.2 : Int)]
theorem rng_splitL {lo : Int} {n : Nat} {pre post : List D} {x : D} (h : rng lo n = pre ++ x :: post) : x = .int (lo + (pre.length : Nat)) ∧ pre.length < n := by
  have e : (rng lo n)[pre.length]? = some x := by rw [h, List.getElem?_append_right (Nat.le_refl _), Nat.sub_self]; rfl
  have hl := (List.getElem?_eq_some_iff.mp e).1
  rw [rng_len] at hl
  rw [rng_get hl] at e
  exact ⟨(Option.some.inj e).symm, hl⟩
theorem at_iN {v : List Nat} {i s : Nat} (h : v[i]? = some s) : atI (iN v) (i : Int) = some (.int (s : Int)) := by
  have hl := (List.getElem?_eq_some_iff.mp h).1
  unfold atI ixN
  rw [if_pos (Int.natCast_nonneg i), if_pos (by rw [iN_len]; omega), Int.toNat_natCast]
  unfold iN
  show (v.map _)[i]? = _
  rw [List.getElem?_map, h]; rfl
def spDrawn : DSp := fun ds Q _ => ∃ n b : Nat, ds = [.pen, .int (n : Int), .int (b : Int)] ∧ 1 ≤ n ∧ n ≤ 60 ∧ 1 ≤ b ∧ b ≤ 8 ∧ n * b < 64 ∧ ∀ xs A, Rw xs n A → xs.length = b → Q (rowsD xs n A)
abbrev s_drawn : Stmt := top 42
theorem sc_drawn : FnScope ["pen", "many", "deeds", "arrows", "stand", "free", "late", "pair", "numbers", "found"] ["pen", "many", "deeds"] (defScope s_drawn) := ⟨rfl, rfl, rfl, by decide +kernel, rfl, by decide +kernel, by decide +kernel⟩
theorem ok_drawn {f : Addr} {fd : FuncData} (B : Bl mg) (hso : mg "sorted" = none) (F : Fun K "_law_drawn_rows" "_law_drawn_rows" s_drawn f fd) (d0 : Def P w K mg base 1 "_law_draw" spDraw) (d1 : Def P w K mg base 2 "_law_pick" spPickL) (d2 : Def P w K mg base 2 "_law_shuffled" spShuf) (d3 : Def P w K mg base 1 "_law_free" spFree) (d4 : Def P w K mg base 4 "_law_names" spNames) : FnOk P w K mg base (L2.CX P w) 5 f fd ["pen", "many", "deeds"] (lift K spDrawn) := by
  refine def_ok F sc_drawn (fun ds Q E ⟨_, _, e, _⟩ => by rw [e]; rfl) fun ds Q E ⟨n, b, e, hn1, hn2, hb1, hb2, hnb, q⟩ => ?_
  subst e
  refine wb_cons (ws_set 3 rfl (.inr rfl) (wo_dictT fun q0 => ?_))
  refine wb_cons (ws_for [4] ?_)
  walk_at "w"
  refine ⟨fun pre Δ' => ∃ M, Ph1 M (pre.length + 1) b ∧ ∃ c4 c5 c6 c7, Δ' = [some .pen, some (.int (n : Int)), some (.int (b : Int)), some (.oT q0 (M.map kA) (M.map vA)), c4, c5, c6, c7, none, none], ⟨[], .start b, _, _, _, _, rfl⟩, ?_, ?_⟩
  · intro pre x post Δ' hsp ⟨M, p1, c4, c5, c6, c7, hI⟩
    subst hI
    have hx : x = .int ((pre.length + 1 : Nat) : Int) ∧ pre.length + 1 < n := by
      obtain ⟨h1, h2⟩ := rng_splitL hsp
      exact ⟨h1.trans (congrArg D.int (by omega)), by omega⟩
    obtain ⟨rfl, hlt⟩ := hx
    walk_at "w1"
    refine wb_cons (ws_set 5 rfl (.inl rfl) (wo_lendO 3 rfl rfl ?_))
    walk_at "w"
    refine ⟨tup_pD _, ?_⟩
    refine ws_freeze 5 rfl rfl ?_
    have hfl : ((free M (pre.length + 1) b).map pD).length ≤ 60 * 8 := by
      have h1 := flat_len (prs_len M b) (List.range (pre.length + 1))
      rw [List.length_range] at h1
      rw [List.length_map]
      exact Nat.le_trans h1 (Nat.mul_le_mul (by omega) hb2)
    refine wb_cons (ws_setLc 6 [("pair", 7)] (by dsimp only [Cf.blk]; decide +kernel) rfl rfl ?_)
    walk_at "w"
    refine ⟨fun pre2 acc => ∃ l, (∀ p ∈ l, p ∈ free M (pre.length + 1) b) ∧ acc = l.map pD, ⟨[], by simp, rfl⟩, ?_, ?_⟩
    · intro pre2 y post2 acc hsp2 hle ⟨l, hl, hI⟩
      subst hI
      obtain ⟨p, hp, rfl⟩ := map_at hsp2
      walk_at "w"
      refine if_b (fun h => ?_) (fun h => ⟨l, hl, rfl⟩)
      walk_at "w"
      refine ⟨l ++ [p], fun q hq => ?_, by rw [List.map_append]; rfl⟩
      rw [List.mem_append, List.mem_singleton] at hq
      rcases hq with hq | rfl
      · exact hl q hq
      · exact List.mem_of_getElem? hp
    · intro acc hle ⟨l, hl, hI⟩
      subst hI
      refine ws_freeze 6 rfl rfl ?_
      refine wb_cons (ws_putT 3 rfl (.inr (.inl rfl)) rfl (we_var 4 rfl (.inr (.inl rfl)) rfl rfl (WE.mono (Q := fun kd => ∃ p ∈ free M (pre.length + 1) b, kd = pD p) ?_ ?_)))
      rotate_left
      · rintro _ ⟨p, hp, rfl⟩
        have hml := p1.len
        have hkn := step_none.mp (mem_free.mp hp).2.2
        have hkn2 : kP p ∉ M.map kA := fun h => by
          obtain ⟨c, hc, ec⟩ := List.mem_map.mp h
          exact hkn (List.mem_map.mpr ⟨c, hc, kA_inj (a := c) (c := (p.1, p.2, 0)) ec⟩)
        obtain ⟨e1, e2⟩ := put_newT (l := M.map vA) (x := D.int ((pre.length + 1 : Nat) : Int)) hkn2
        refine ⟨kP p, rfl, by rw [List.length_map, sizeLine_eq]; omega, ?_⟩
        walk_at "w"
        have e3 : D.oT q0 (putKs (M.map kA) (kP p)) (putDs (M.map kA) (M.map vA) (kP p) (D.int ((pre.length + 1 : Nat) : Int))) = D.oT q0 ((M ++ [(p.1, p.2, pre.length + 1)]).map kA) ((M ++ [(p.1, p.2, pre.length + 1)]).map vA) := by
          rw [e1, e2, List.map_append, List.map_append]; rfl
        exact ⟨M ++ [(p.1, p.2, pre.length + 1)], by rw [snoc_len]; exact p1.grow hp, _, _, _, _, congrArg (fun z => [_, _, _, some z, _, _, _, _, _, _]) e3⟩
      walk_at "w"
      have okl : ∀ d ∈ l.map pD, OkB 60 d := fun d hd => by
        obtain ⟨p, _, rfl⟩ := List.mem_map.mp hd
        refine OkD.okB (OkD.mono (n := 1) (OkD.tup (n := 0) fun x hx => ?_) (by omega))
        simp only [List.mem_cons, List.not_mem_nil, or_false] at hx
        rcases hx with rfl | rfl <;> exact .int
      have hfr := p1.some hb1
      have hf0 : 1 ≤ ((free M (pre.length + 1) b).map pD).length := by rw [List.length_map]; exact List.length_pos_iff.mpr hfr
      have pick : ∀ d ∈ (free M (pre.length + 1) b).map pD, ∃ p ∈ free M (pre.length + 1) b, d = pD p := fun d hd => by
        obtain ⟨p, hp, rfl⟩ := List.mem_map.mp hd; exact ⟨p, hp, rfl⟩
      refine vo_neNil okl ⟨_, rfl, ?_⟩
      refine if_b (fun h => ?_) (fun h => ?_)
      · walk_at "w"
        refine fun r r0 r1 => ?_
        walk_at "w"
        refine if_b (fun h2 => ?_) (fun h2 => ?_)
        · walk_at "w"
          refine ⟨?_, by omega, fun d hd => ?_⟩
          · cases l with
            | nil => exact absurd h (by decide)
            | cons p l => rw [List.length_map, List.length_cons]; omega
          · obtain ⟨p, hp, rfl⟩ := List.mem_map.mp hd
            exact ⟨p, hl p hp, rfl⟩
        · walk_at "w"
          refine fun d hd => ?_
          obtain ⟨p, hp, rfl⟩ := pick d hd
          exact ⟨p, hp, rfl⟩
      · walk_at "w"
        refine fun d hd => ?_
        obtain ⟨p, hp, rfl⟩ := pick d hd
        exact ⟨p, hp, rfl⟩
  · intro Δ' ⟨M, p1, c4, c5, c6, c7, hI⟩
    subst hI
    rw [rng_len] at p1
    have e9 : ((n : Int) - 1).toNat + 1 = n := by omega
    rw [e9] at p1
    refine wb_cons (ws_set 5 rfl (.inl rfl) (wo_lendO 3 rfl rfl ?_))
    walk_at "w"
    refine ⟨tup_pD _, ?_⟩
    refine ws_freeze 5 rfl rfl ?_
    refine wb_cons (ws_for [7] ?_)
    walk_at "w"
    have hfl : ((free M n b).map pD).length ≤ 60 * 8 := by
      have h1 := flat_len (prs_len M b) (List.range n)
      rw [List.length_range] at h1
      rw [List.length_map]
      exact Nat.le_trans h1 (Nat.mul_le_mul (by omega) hb2)
    refine ⟨by omega, fun m hm => ?_⟩
    have hml := hm.length_eq
    walk_at "w"
    intro r r0 r1
    walk_at "w"
    have ndm : m.Nodup := hm.nodup_iff.mpr (nodup_map (fun x y h => pD_inj h) (free_nodup M b n))
    have ndc := nodup_cut (lo := none) (hi := some r) ndm
    refine ⟨fun pre Δ' => ∃ M', Ph2 M' n b ∧ (∀ a ∈ M', kyA a ∈ M.map kyA ∨ pD (kyA a) ∈ pre) ∧ ∃ c4 c6 c7, Δ' = [some .pen, some (.int (n : Int)), some (.int (b : Int)), some (.oT q0 (M'.map kA) (M'.map vA)), c4, some (.lst ((free M n b).map pD)), c6, c7, none, none], ⟨M, p1.two, fun a ha => .inl (List.mem_map.mpr ⟨a, ha, rfl⟩), _, _, _, rfl⟩, ?_, ?_⟩
    · intro pre x post Δ' hsp ⟨M', p2, hM, c4, c6, c7, hI⟩
      subst hI
      obtain ⟨p, hp, rfl⟩ : ∃ p ∈ free M n b, x = pD p := by
        have : x ∈ m := mem_cut (lo := none) (hi := some r) (by rw [hsp]; simp)
        obtain ⟨p, hp, rfl⟩ := List.mem_map.mp (hm.mem_iff.mp this)
        exact ⟨p, hp, rfl⟩
      obtain ⟨f1, f2, f3⟩ := mem_free.mp hp
      have hpre : pD p ∉ pre := fun h => by
        rw [hsp, List.nodup_append] at ndc
        exact ndc.2.2 _ h _ List.mem_cons_self rfl
      have hkn : p ∉ M'.map kyA := fun h => by
        obtain ⟨a, ha, e⟩ := List.mem_map.mp h
        rcases hM a ha with h2 | h2
        · exact step_none.mp f3 (by rw [show (p.1, p.2) = kyA a from e.symm]; exact h2)
        · exact hpre (by rw [← e]; exact h2)
      have hkn2 : kP p ∉ M'.map kA := fun h => by
        obtain ⟨c, hc, ec⟩ := List.mem_map.mp h
        exact hkn (List.mem_map.mpr ⟨c, hc, kA_inj (a := c) (c := (p.1, p.2, 0)) ec⟩)
      have hlM := p2.len
      walk_at "w"
      intro r2 hr0 hr1
      obtain ⟨t, rfl⟩ := Int.eq_ofNat_of_zero_le hr0
      obtain ⟨e1, e2⟩ := put_newT (l := M'.map vA) (x := D.int ((t : Nat) : Int)) hkn2
      have e3 : D.oT q0 (putKs (M'.map kA) (kP p)) (putDs (M'.map kA) (M'.map vA) (kP p) (D.int ((t : Nat) : Int))) = D.oT q0 ((M' ++ [(p.1, p.2, t)]).map kA) ((M' ++ [(p.1, p.2, t)]).map vA) := by
        rw [e1, e2, List.map_append, List.map_append]; rfl
      walk_at "w"
      refine ⟨kP p, rfl, by rw [List.length_map, sizeLine_eq]; omega, ?_⟩
      walk_at "w"
      refine ⟨M' ++ [(p.1, p.2, t)], p2.grow f1 f2 (by omega) hkn, fun a ha => ?_, _, _, _, congrArg (fun z => [_, _, _, some z, _, _, _, _, _, _]) e3⟩
      rw [List.mem_append, List.mem_singleton] at ha
      rcases ha with ha | rfl
      · rcases hM a ha with h2 | h2
        · exact .inl h2
        · exact .inr (List.mem_append_left _ h2)
      · exact .inr (List.mem_append_right _ (List.mem_singleton_self _))
    · intro Δ' ⟨M', p2, _, c4, c6, c7, hI⟩
      subst hI
      have hlM := p2.len
      refine wb_cons (ws_set 8 rfl (.inr rfl) (wo_bin (we_lst (wa_cons (we_int (wa_nil ⟨sz (Nat.le_of_ble_eq_true rfl), we_call d2 (Nat.le_of_ble_eq_true rfl) rfl (wa_cons (we_var 0 rfl (.inl rfl) rfl rfl (wa_cons (we_of_wo (wo_listRg2 rfl B.list rfl B.range ?_)))))⟩))))))
      walk_at "w"
      refine ⟨RgOk.of_le (by omega) (by omega) (by omega) (by omega), ?_⟩
      walk_at "w"
      intro m2 hm2
      have e8 : ((n : Int) - 1).toNat = n - 1 := by omega
      have hm2 : m2.Perm (rng 1 (n - 1)) := by rw [← e8]; exact hm2
      have hml2 := hm2.length_eq
      rw [rng_len] at hml2
      obtain ⟨v, ev, hv, v0⟩ := perm_nums hn1 hm2
      have hvl := hv.length_eq
      rw [List.length_range] at hvl
      walk_at "w"
      rw [show ([D.int 0] ++ m2) = iN v from ev]
      refine ws_freeze 8 rfl rfl ?_
      refine ws_lockT 3 rfl ?_
      refine wb_cons (ws_setLc 9 [("pair", 7)] (by dsimp only [Cf.blk]; decide +kernel) rfl rfl ?_)
      refine wi_fT ?_
      walk_at "w"
      refine ⟨_, _, rfl, ?_⟩
      have ek : (M'.map kA).map (fun k => D.tup (k.map keyD)) = M'.map fun a => pD (kyA a) := by rw [List.map_map]; rfl
      rw [ek]
      refine ⟨by walk_at "sz", ?_⟩
      refine ⟨fun pre acc => acc = (M'.take pre.length).map fun a => aD (renu v a), rfl, ?_, ?_⟩
      · intro pre x post acc hsp hle hI
        subst hI
        obtain ⟨a, ha, rfl⟩ := map_at hsp
        have ham := List.mem_of_getElem? ha
        obtain ⟨g1, g2, g3⟩ := p2.rg a ham
        have hk : DkAt (.fT (M'.map kA) (M'.map vA)) (pD (kyA a)) (some (.int (a.2.2 : Int))) := by
          have e0 := look_A (A := M') (s := a.1) (d := a.2.1)
          rw [(step_mem p2.nd).mpr (show (a.1, a.2.1, a.2.2) ∈ M' from ham)] at e0
          rw [show some (D.int (a.2.2 : Int)) = _ from e0.symm]
          exact .fT rfl
        walk_at "w"
        refine vi_lst (at_iN (getD_lt hv g1).2) ?_
        walk_at "w"
        refine vi_dict hk ?_
        refine vi_lst (at_iN (getD_lt hv g3).2) ?_
        walk_at "w"
        rw [snoc_len, take_at ha, List.map_append]; rfl
      · intro acc hle hI
        rw [List.length_map, List.take_length] at hI
        subst hI
        refine ws_freeze 9 rfl rfl ?_
        walk_at "w"
        intro xs nm hx
        walk_at "w"
        have ef : M'.map (fun a => aD (renu v a)) = ((M'.map (renu v)).map aI).map tI := by rw [List.map_map, List.map_map]; rfl
        have bdd : ∀ ns ∈ (M'.map (renu v)).map aI, ns.length = 3 ∧ TS.Bd 64 ns := fun ns hns => by
          obtain ⟨c, hc, rfl⟩ := List.mem_map.mp hns
          obtain ⟨a, ha, rfl⟩ := List.mem_map.mp hc
          obtain ⟨g1, g2, g3⟩ := p2.rg a ha
          have k1 := (getD_lt hv g1).1
          have k3 := (getD_lt hv g3).1
          refine ⟨rfl, fun m hm => ?_⟩
          simp only [aI, renu, List.mem_cons, List.not_mem_nil, or_false] at hm
          rcases hm with rfl | rfl | rfl <;> omega
        show VC _ _ [D.lst (M'.map fun a => aD (renu v a))] _
        rw [ef]
        refine vc_sortT (d := 3) (B := 64) (by decide) (by rw [List.length_map, List.length_map]; omega) bdd fun m3 hp3 hs3 => ?_
        obtain ⟨A, hA, rfl⟩ := perm_map_inv back_aI hp3
        walk_at "w"
        rw [← aD_tI]
        exact q xs A (rows_of p2 hv v0 nm hx hb2 hn1 hn2 hnb hA hs3) hx
end
end K15
end
section
set_option Elab.async false
set_option linter.all false
set_option maxRecDepth 100000
set_option maxHeartbeats 4000000
/-! LN: the runs of a behaviour, level by level. -/
namespace K15
open PySem PySem.Spec PyProof.Rows L2 DL
abbrev RS := List Nat × Nat
def nxt (A : List Ar) (b : Nat) (p : RS) : List RS := ((List.range b).filter fun d => (step A p.2 d).isSome).map fun d => (p.1 ++ [d], (step A p.2 d).getD 0)
def lev (A : List Ar) (b : Nat) : Nat → List RS
  | 0 => [([], 0)]
  | k + 1 => (lev A b k).flatMap (nxt A b)
def cat (A : List Ar) (b : Nat) : Nat → List (List Nat)
  | 0 => [[]]
  | k + 1 => cat A b k ++ (lev A b (k + 1)).map (·.1)
theorem lev_nil {A : List Ar} {b k : Nat} (h : lev A b k = []) : ∀ j, lev A b (k + j) = []
  | 0 => h
  | j + 1 => by
    show (lev A b (k + j)).flatMap (nxt A b) = []
    rw [lev_nil h j]; rfl
theorem cat_stop {A : List Ar} {b k : Nat} (h : lev A b (k + 1) = []) : ∀ j, cat A b (k + j) = cat A b k
  | 0 => rfl
  | j + 1 => by
    show cat A b (k + j) ++ (lev A b (k + j + 1)).map (·.1) = cat A b k
    rw [cat_stop h j, show k + j + 1 = k + 1 + j by omega, lev_nil h j]
    exact List.append_nil _
/-- what a run of a level is -/
structure LvOk (A : List Ar) (n b k : Nat) (p : RS) : Prop where
  l : p.1.length = k
  d : ∀ d ∈ p.1, d < b
  g : goes A 0 p.1 = some p.2
  s : p.2 < n
theorem lev_ok {A : List Ar} {n b : Nat} (hn : 1 ≤ n) (rg : ∀ a ∈ A, a.2.2 < n) (nd : (A.map fun a => (a.1, a.2.1)).Nodup) : ∀ k, ∀ p ∈ lev A b k, LvOk A n b k p
  | 0, p, h => by
    rw [List.mem_singleton.mp h]
    exact ⟨rfl, nofun, rfl, hn⟩
  | k + 1, p, h => by
    obtain ⟨q, hq, hp⟩ := List.mem_flatMap.mp h
    have ok := lev_ok hn rg nd k q hq
    unfold nxt at hp
    obtain ⟨d, hd, rfl⟩ := List.mem_map.mp hp
    obtain ⟨h1, h2⟩ := List.mem_filter.mp hd
    obtain ⟨t, ht⟩ := Option.isSome_iff_exists.mp h2
    rw [ht]
    refine ⟨by rw [List.length_append, ok.l]; rfl, fun x hx => ?_, ?_, rg _ ((step_mem nd).mp ht)⟩
    · rcases List.mem_append.mp hx with hx | hx
      · exact ok.d x hx
      · rw [List.mem_singleton.mp hx]; exact List.mem_range.mp h1
    · rw [goes_snoc, ok.g]; exact ht
def rsD (p : RS) : D := .tup [.tup (iN p.1), .int (p.2 : Int)]
def tN (r : List Nat) : D := .tup (iN r)
def numB : D → Bool
  | .int i => decide (0 ≤ i)
  | _ => false
def spNum : DSp := fun ds Q _ => ∃ d k, ds = [d] ∧ itB d = some k ∧ Q (.bl (numB d))
end K15
end
section
set_option Elab.async false
set_option linter.all false
set_option maxRecDepth 100000
set_option maxHeartbeats 4000000
/-! LR: _law_caught; exceptions made. -/
namespace K15
open PySem PySem.Spec PyProof.Rows L2 DL
theorem xlen1 {ws : List V} (h : ws.length = 1) : ∃ y, ws = [y] := by
  match ws, h with
  | [y], _ => exact ⟨y, rfl⟩
theorem xlen2 {ws : List V} (h : ws.length = 2) : ∃ y z, ws = [y, z] := by
  match ws, h with
  | [y, z], _ => exact ⟨y, z, rfl⟩
abbrev s_caught : Stmt := top 43
theorem sc_caught : FnScope ["action", "e", "found"] ["action"] (defScope s_caught) := ⟨rfl, rfl, rfl, by decide +kernel, rfl, by decide +kernel, by decide +kernel⟩
/-- the classes' places -/
structure XG (K : PySem.W.Frag) (mg : Str → Option Value) (c0 : Addr) (c1 : Addr) (c2 : Addr) (c3 : Addr) (c4 : Addr) (c5 : Addr) (c6 : Addr) (c7 : Addr) (c8 : Addr) (c9 : Addr) (c10 : Addr) (c11 : Addr) : Prop where
  g0 : mg "BadName" = some (.ref c0)
  g1 : mg "BadNumber" = some (.ref c1)
  g2 : mg "BadRow" = some (.ref c2)
  g3 : mg "BadBehaviour" = some (.ref c3)
  g4 : mg "BadCounter" = some (.ref c4)
  g5 : mg "BadFrame" = some (.ref c5)
  g6 : mg "NoDeed" = some (.ref c6)
  g7 : mg "NoStand" = some (.ref c7)
  g8 : mg "NotDone" = some (.ref c8)
  g9 : mg "TooMany" = some (.ref c9)
  g10 : mg "Unlike" = some (.ref c10)
  g11 : mg "BadText" = some (.ref c11)
def suite : List Stmt := match defBody s_caught with
  | [.Try _ [.ExceptHandler _ _ b _] _ _ _, _] => b
  | _ => []
theorem suite_BadNumber {P : Program} {w : World} {K : PySem.W.Frag} {mg : Str → Option Value} {base : Heap} {CS c0 c1 c2 c3 c4 c5 c6 c7 c8 c9 c10 c11 a dd : Addr} {y0 y1 : D} (B : Bl mg) (G : XG K mg c0 c1 c2 c3 c4 c5 c6 c7 c8 c9 c10 c11) (X : XK1 K CS c1 ["what", "number"])
    (k0 : PySem.W.kitOne K (.ref c1) (.ref c0) = some false)
    (k1 : PySem.W.kitOne K (.ref c1) (.ref c1) = some true)
    (k2 : PySem.W.kitOne K (.ref c1) (.ref c2) = some false)
    (k3 : PySem.W.kitOne K (.ref c1) (.ref c3) = some false)
    (k4 : PySem.W.kitOne K (.ref c1) (.ref c4) = some false)
    (k5 : PySem.W.kitOne K (.ref c1) (.ref c5) = some false)
    (k6 : PySem.W.kitOne K (.ref c1) (.ref c6) = some false)
    (k7 : PySem.W.kitOne K (.ref c1) (.ref c7) = some false)
    (k8 : PySem.W.kitOne K (.ref c1) (.ref c8) = some false)
    (k9 : PySem.W.kitOne K (.ref c1) (.ref c9) = some false)
    (k10 : PySem.W.kitOne K (.ref c1) (.ref c10) = some false)
    (k11 : PySem.W.kitOne K (.ref c1) (.ref c11) = some false)
    : WB ⟨P, w, K, mg, base, ["action", "e", "found"], defScope s_caught, 0, fun _ => False, fun _ => true, some (a, c1, dd), some ⟨[], none⟩⟩ suite ⟨fun _ => False, fun d _ => d = .tup [.str "number", y0, y1], fun _ => False, fun _ => False⟩ [none, some (.xc a c1 dd ["number", "what"] [y1, y0]), none] := by
  refine wb_cons (ws_set 2 rfl (.inl rfl) (wo_lst (wa_nil ⟨sz (Nat.le_of_ble_eq_true rfl), ?_⟩)))
  refine wb_cons (ws_ifE 1 B.isinstance rfl rfl (.inl rfl) rfl X.ec rfl G.g0 k0 (if_f rfl ?_) rfl)
  refine wb_cons (ws_ifE 1 B.isinstance rfl rfl (.inl rfl) rfl X.ec rfl G.g1 k1 (if_t rfl ?_) rfl)
  refine wb_cons (ws_app 2 rfl (.inl rfl) rfl (we_tup (wa_cons (we_str (wa_cons (we_xfld rfl X.xf (X.no _ (by simp)) (we_var 1 rfl (.inl rfl) rfl rfl ⟨_, _, _, rfl, rfl, wa_cons (we_xfld rfl X.xf (X.no _ (by simp)) (we_var 1 rfl (.inl rfl) rfl rfl ⟨_, _, _, rfl, rfl, wa_nil ⟨sz (Nat.le_of_ble_eq_true rfl), sz_lt (Nat.le_of_ble_eq_true rfl), ?_⟩⟩))⟩)))))))
  refine wb_nil ?_
  refine wb_cons (ws_ifE 1 B.isinstance rfl rfl (.inl rfl) rfl X.ec rfl G.g2 k2 (if_f rfl ?_) rfl)
  refine wb_cons (ws_ifE 1 B.isinstance rfl rfl (.inl rfl) rfl X.ec rfl G.g3 k3 (if_f rfl ?_) rfl)
  refine wb_cons (ws_ifE 1 B.isinstance rfl rfl (.inl rfl) rfl X.ec rfl G.g4 k4 (if_f rfl ?_) rfl)
  refine wb_cons (ws_ifE 1 B.isinstance rfl rfl (.inl rfl) rfl X.ec rfl G.g5 k5 (if_f rfl ?_) rfl)
  refine wb_cons (ws_ifE 1 B.isinstance rfl rfl (.inl rfl) rfl X.ec rfl G.g6 k6 (if_f rfl ?_) rfl)
  refine wb_cons (ws_ifE 1 B.isinstance rfl rfl (.inl rfl) rfl X.ec rfl G.g7 k7 (if_f rfl ?_) rfl)
  refine wb_cons (ws_ifE 1 B.isinstance rfl rfl (.inl rfl) rfl X.ec rfl G.g8 k8 (if_f rfl ?_) rfl)
  refine wb_cons (ws_ifE 1 B.isinstance rfl rfl (.inl rfl) rfl X.ec rfl G.g9 k9 (if_f rfl ?_) rfl)
  refine wb_cons (ws_ifE 1 B.isinstance rfl rfl (.inl rfl) rfl X.ec rfl G.g10 k10 (if_f rfl ?_) rfl)
  refine wb_cons (ws_ifE 1 B.isinstance rfl rfl (.inl rfl) rfl X.ec rfl G.g11 k11 (if_f rfl ?_) rfl)
  refine ws_freeze 2 rfl rfl ?_
  refine wb_cons (ws_ret (wo_of_we (we_if (wt_cmp (we_of_wo (wo_callB rfl B.len boot_len (wa_cons (we_var 2 rfl (.inl rfl) rfl rfl (wa_nil (vc_lenL (we_int (vo_eqi ⟨_, rfl, if_t rfl ?_⟩))))))))))))
  exact we_ix (we_var 2 rfl (.inl rfl) rfl rfl (we_int (vi_lst (d := .tup [.str "number", y0, y1]) rfl rfl)))
def okC (c1 : Addr) : XD → Prop := fun y => (∃ a b, y = ⟨c1, ["number", "what"], [b, a]⟩)
/-- what is told of a caught exception, by its fields' names -/
def toldC (y : XD) : D := if y.ns = (["number", "what"] : List Str) then (match y.ds with | [b, a] => .tup [.str "number", a, b] | _ => .non) else .non
theorem told_BadNumber {C : Addr} (a b : D) : toldC ⟨C, ["number", "what"], [b, a]⟩ = .tup [.str "number", a, b] := by
  unfold toldC
  rw [if_pos rfl]
theorem ok_caught {P : Program} {w : World} {K : PySem.W.Frag} {mg : Str → Option Value} {base : Heap} {CS c0 c1 c2 c3 c4 c5 c6 c7 c8 c9 c10 c11 f : Addr} {fd : FuncData} (B : Bl mg) (g : mg "_law_caught" = some (.ref f)) (F : Fun K "_law_caught" "_law_caught" s_caught f fd) (b : Binds K fd ["action"] []) (gP : mg "PartsError" = some (.ref CS)) (G : XG K mg c0 c1 c2 c3 c4 c5 c6 c7 c8 c9 c10 c11) (X1 : XK1 K CS c1 ["what", "number"])
    (nd : [c0, c1, c2, c3, c4, c5, c6, c7, c8, c9, c10, c11].Nodup) (al1 : ∀ D ∈ [c0, c1, c2, c3, c4, c5, c6, c7, c8, c9, c10, c11], PySem.W.kitOne K (.ref c1) (.ref D) = some (c1 == D))
    : Caught P w K mg base "_law_caught" (okC c1) toldC (.tup [.str "none"]) := by
  refine caught_mk g F b sc_caught rfl (.inl rfl) fun Xc q cdv h1 h2 h3 h4 h5 h6 h7 => ?_
  subst h1 h2 h3 h4 h5
  refine caught_gives h6 h7 sc_caught (fun _ => rfl) rfl rfl rfl gP rfl (fun y h => ?_) (fun y a dd h => ?_)
  · rcases h with ⟨z0, z1, e⟩ <;> subst e
    · exact X1.ex
  · rcases h with ⟨z0, z1, e⟩ <;> subst e
    · rw [told_BadNumber]
      exact suite_BadNumber B G X1 ((al1 c0 (by simp)).trans (by rw [show (c1 == c0) = false from nd_ne nd (i := 1) (j := 0) rfl rfl (by decide)])) kit_self ((al1 c2 (by simp)).trans (by rw [show (c1 == c2) = false from nd_ne nd (i := 1) (j := 2) rfl rfl (by decide)])) ((al1 c3 (by simp)).trans (by rw [show (c1 == c3) = false from nd_ne nd (i := 1) (j := 3) rfl rfl (by decide)])) ((al1 c4 (by simp)).trans (by rw [show (c1 == c4) = false from nd_ne nd (i := 1) (j := 4) rfl rfl (by decide)])) ((al1 c5 (by simp)).trans (by rw [show (c1 == c5) = false from nd_ne nd (i := 1) (j := 5) rfl rfl (by decide)])) ((al1 c6 (by simp)).trans (by rw [show (c1 == c6) = false from nd_ne nd (i := 1) (j := 6) rfl rfl (by decide)])) ((al1 c7 (by simp)).trans (by rw [show (c1 == c7) = false from nd_ne nd (i := 1) (j := 7) rfl rfl (by decide)])) ((al1 c8 (by simp)).trans (by rw [show (c1 == c8) = false from nd_ne nd (i := 1) (j := 8) rfl rfl (by decide)])) ((al1 c9 (by simp)).trans (by rw [show (c1 == c9) = false from nd_ne nd (i := 1) (j := 9) rfl rfl (by decide)])) ((al1 c10 (by simp)).trans (by rw [show (c1 == c10) = false from nd_ne nd (i := 1) (j := 10) rfl rfl (by decide)])) ((al1 c11 (by simp)).trans (by rw [show (c1 == c11) = false from nd_ne nd (i := 1) (j := 11) rfl rfl (by decide)]))
section
variable {P : Program} {w : World} {K : PySem.W.Frag} {mg : Str → Option Value} {base : Heap} {C PE : Addr}
theorem sc_xBadNumber : FnScope ["self", "what", "number"] ["self", "what", "number"] (defScope (inClass (top 3) 0)) := ⟨rfl, rfl, rfl, by decide +kernel, rfl, by decide +kernel, by decide +kernel⟩
theorem ok_xBadNumber {f : Addr} {fd : FuncData} (T : PeB K mg "PartsError" PE) (O : OexC K C) (n1 : PySem.W.findIn K (.ref C) "what" = some none) (n2 : PySem.W.findIn K (.ref C) "number" = some none) (F : Fun K "__init__" "BadNumber.__init__" (inClass (top 3) 0) f fd) : FnOk P w K mg base CX0 2 f fd ["self", "what", "number"] (spX C ["what", "number"]) := by
  refine F.ok sc_xBadNumber (fun vs H Q E ⟨a, ws, e, hl, _⟩ => by rw [e, List.length_cons, hl]; rfl) (fun cdv A outer s H vs Q E hr h => ?_)
  obtain ⟨a, ws, rfl, hl, ha, k⟩ := h
  obtain ⟨y, z, rfl⟩ := xlen2 hl
  refine ⟨_, pss_cons (ps_expr (pe_peinit T rfl (pa_cons (pv 0) (pa_cons pe_str pa_nil)))) (pss_cons (ps_ost (pv 0) (pv 1)) (pss_one (ps_ost (pv 0) (pv 2)))), ?_⟩
  refine ⟨_, rfl, a, C, _, rfl, by decide, O, ha, ?_⟩
  refine ⟨_, rfl, _, rfl, a, C, rfl, O, n1, .inl ⟨ha, fun dx hd hda => ?_⟩⟩
  refine ⟨_, rfl, _, rfl, a, C, rfl, O, n2, .inr ⟨dx, _, upd_same, by rw [upd_ne hda, upd_same], Nat.le_of_ble_eq_true rfl, ?_⟩⟩
  have e : upd (upd (upd H dx (exd dx [("what", y)])) a (exo a C (some dx))) dx (exd dx (("number", z) :: [("what", y)])) = upd (upd H dx (exd dx ([("what", y), ("number", z)] : List (Str × V)).reverse)) a (exo a C (some dx)) := by
    funext b
    by_cases h1 : b = dx
    · rw [h1, upd_same, upd_ne hda, upd_same]; rfl
    · rw [upd_ne h1]
      by_cases h2 : b = a
      · rw [h2, upd_same, upd_same]
      · rw [upd_ne h2, upd_ne h1, upd_ne h2, upd_ne h1]
  have q := k dx hd hda
  rw [show (([("what" : Str), "number"].zip [y, z]).reverse) = ([("what", y), ("number", z)] : List (Str × V)).reverse from rfl, ← e] at q
  exact q
end
end K15
end
section
set_option Elab.async false
set_option linter.all false
set_option maxRecDepth 100000
set_option maxHeartbeats 4000000
/-! LQ: the program's runs. -/
namespace K15
open PySem PySem.Spec PyProof.Rows L2 DL
local macro_rules | `(tactic| walk_at "len") => `(tactic| simp only [rng_len, iN_len, sL_len, iL_len, List.length_map, List.length_append, List.length_cons, List.length_nil, List.length_replicate, List.length_take, List.length_drop, Int.toNat_natCast, Nat.zero_add, Nat.reduceAdd, Nat.reduceLeDiff])
local macro_rules | `(tactic| walk_at "sz") => `(tactic| first | (with_reducible assumption) | (refine' sz ?_; omega) | (refine' sz ?_; walk_at "len"; (try omega); done))
local macro_rules | `(tactic| walk_at "side") => `(tactic| first | (with_reducible assumption) | ((with_reducible show isOk _ _); first | assumption | exact isOk_bl | exact isOk_int | exact isOk_str | exact isOk_non) | (with_reducible rfl) | omega | walk_at "sz" | ((with_reducible show _ = _); rfl) | (walk_at "len"; (try omega); done))
local macro_rules | `(tactic| walk_at "ix") => `(tactic| ((try dsimp only [Cf.blk, lamC]); (with_reducible first | exact ix0 | exact ix1 | exact ix2 | exact ix3 | exact ix4 | exact ix5 | exact ix6 | exact ix7 | exact ix8 | exact ix9 | exact ix10 | exact ix11 | exact ix12 | exact ix13 | exact ix14 | exact ix15 | exact ix16 | exact ix17 | exact ix18 | exact ix19)))
local macro_rules | `(tactic| walk_at "vis") => `(tactic| first | exact .inl rfl | exact .inr (.inl rfl) | exact .inr (.inr rfl))
local macro_rules | `(tactic| walk_at "loc") => `(tactic| first | exact .inl rfl | exact .inr rfl)
local macro_rules | `(tactic| walk_at "hyp") => `(tactic| ((try dsimp only [Cf.blk, lamC]); with_reducible assumption))
local macro_rules | `(tactic| walk_at "j") => `(tactic| first | exact Nat.le_of_ble_eq_true rfl | (dsimp only [Cf.blk, lamC]; omega))
local macro_rules | `(tactic| walk_at "cl") => `(tactic| first | exact (CFx.cls (by walk_at "hyp")) | walk_at "hyp")
local macro_rules | `(tactic| walk_at "na") => `(tactic| first | exact CFx.no (by walk_at "hyp") _ (by repeat (first | exact List.Mem.head _ | apply List.Mem.tail)) | walk_at "hyp")
local macro_rules | `(tactic| walk_at "kw") => `(tactic| with_reducible first | exact boot_len | exact boot_isinstance | exact boot_all | exact boot_any | exact boot_sum | exact boot_min | exact boot_max | exact boot_sorted | exact boot_abs | exact boot_repr)
local macro_rules | `(tactic| walk_at "kty") => `(tactic| with_reducible first | exact boot_tuple | exact boot_list | exact boot_int | exact boot_str | exact boot_bool)
local macro_rules | `(tactic| walk_at "no") => `(tactic| ((try dsimp only [Cf.blk, lamC]); with_reducible first | assumption | exact Bl.isinstance (by assumption) | exact Bl.len (by assumption) | exact Bl.int (by assumption) | exact Bl.bool (by assumption) | exact Bl.str (by assumption) | exact Bl.list (by assumption) | exact Bl.tuple (by assumption) | exact Bl.range (by assumption) | exact Bl.all (by assumption) | exact Bl.any (by assumption) | exact Bl.zip (by assumption) | exact Bl.enumerate (by assumption) | exact Bl.min (by assumption)))
local macro_rules | `(tactic| walk_at "wb") => `(tactic| first
  | ((with_reducible show WB _ [] _ _); refine' wb_nil ?_; try dsimp only [List.set_cons_zero, List.set_cons_succ])
  | (refine' wb_cons ?_; walk_at "ws"))
local macro_rules | `(tactic| walk_at "ws") => `(tactic| first
  | ((with_reducible show WS _ (Stmt.If _ _ _ _) _ _); refine' ws_if ?_)
  | ((with_reducible show WS _ (Stmt.Return (some (Expr.Name _ _)) _) _ _); refine' ws_retO _ ?a ?b ?c ?h; (case a => walk_at "ix"); (case b => walk_at "vis"); (case c => exact rfl); (all_goals (try dsimp only)))
  | ((with_reducible show WS _ (Stmt.Return (some _) _) _ _); refine' ws_ret ?_)
  | ((with_reducible show WS _ (Stmt.Return none _) _ _); refine' ws_retN ?_)
  | ((with_reducible show WS _ (Stmt.Assign [Expr.Name _ _] (Expr.ListComp _ _ _ _) _) _ _); fail "a comprehension")
  | ((with_reducible show WS _ (Stmt.Assign [Expr.Name _ _] (Expr.Dict [] [] _) _) _ _); fail "a dict")
  | ((with_reducible show WS _ (Stmt.Assign [Expr.Name _ _] _ _) _ _); refine' ws_set _ ?a ?b ?h; (case a => walk_at "ix"); (case b => walk_at "loc"))
  | ((with_reducible show WS _ (Stmt.Assign [Expr.Attribute _ _ _] _ _) _ _); refine' ws_fld _ ?a ?b ?c ?d ?e ?f ?g ?h; (case a => walk_at "ix"); (case b => walk_at "vis"); (case c => exact rfl); (case d => walk_at "cl"); (case e => walk_at "na"); (case f => exact rfl); (case g => decide))
  | ((with_reducible show WS _ (Stmt.AugAssign (Expr.Name _ _) Operator.Add _ _) _ _); refine' ws_augAdd _ ?a ?b ?c ?h; (case a => walk_at "ix"); (case b => walk_at "loc"); (case c => exact rfl))
  | ((with_reducible show WS _ (Stmt.Expr (Expr.Call (Expr.Attribute (Expr.Name _ _) "append" _) _ _ _) _) _ _); refine' ws_app _ ?a ?b ?c ?h; (case a => walk_at "ix"); (case b => walk_at "vis"); (case c => exact rfl))
  | ((with_reducible show WS _ (Stmt.Expr (Expr.Call (Expr.Attribute (Expr.Name _ _) "extend" _) _ _ _) _) _ _); refine' ws_ext _ ?a ?b ?c ?h; (case a => walk_at "ix"); (case b => walk_at "vis"); (case c => exact rfl))
  | ((with_reducible show WS _ (Stmt.Expr (Expr.Constant (Const.str _) _ _) _) _ _); refine' ws_doc ?_)
  | ((with_reducible show WS _ (Stmt.Expr (Expr.Call (Expr.Name _ _) _ _ _) _) _ _); refine' ws_expr (Q := fun _ => True) ?_)
  | ((with_reducible show WS _ (Stmt.Assign [Expr.Subscript (Expr.Name _ _) _ _] _ _) _ _); first
    | (refine' ws_putT _ ?a ?b ?c ?h; (case a => walk_at "ix"); (case b => walk_at "vis"); (case c => exact rfl))
    | (refine' ws_putK _ ?a ?b ?c ?h; (case a => walk_at "ix"); (case b => walk_at "vis"); (case c => exact rfl))
    | (refine' ws_item _ ?a ?b ?c ?h; (case a => walk_at "ix"); (case b => walk_at "vis"); (case c => exact rfl)))
  | ((with_reducible show WS _ (Stmt.Raise _ _ _) _ _); refine' ws_raise ?m ?j ?g ?h (hn := ?n); (case m => walk_at "hyp"); (case n => decide); (case j => walk_at "j"); (case g => exact rfl))
  | ((with_reducible show WS _ (Stmt.Pass _) _ _); refine' ws_pass ?_)
  | ((with_reducible show WS _ (Stmt.Break _) _ _); refine' ws_break ?_)
  | ((with_reducible show WS _ (Stmt.Continue _) _ _); refine' ws_cont ?_))
local macro_rules | `(tactic| walk_at "lam") => `(tactic| first
  | (refine' we_caught 16 ?F rfl rfl (Nat.le_of_ble_eq_true rfl) rfl (by dsimp only; decide +kernel) ?h; (case F => walk_at "hyp"))
  | (refine' we_caught 15 ?F rfl rfl (Nat.le_of_ble_eq_true rfl) rfl (by dsimp only; decide +kernel) ?h; (case F => walk_at "hyp"))
  | (refine' we_caught 14 ?F rfl rfl (Nat.le_of_ble_eq_true rfl) rfl (by dsimp only; decide +kernel) ?h; (case F => walk_at "hyp"))
  | (refine' we_caught 13 ?F rfl rfl (Nat.le_of_ble_eq_true rfl) rfl (by dsimp only; decide +kernel) ?h; (case F => walk_at "hyp"))
  | (refine' we_caught 12 ?F rfl rfl (Nat.le_of_ble_eq_true rfl) rfl (by dsimp only; decide +kernel) ?h; (case F => walk_at "hyp"))
  | (refine' we_caught 11 ?F rfl rfl (Nat.le_of_ble_eq_true rfl) rfl (by dsimp only; decide +kernel) ?h; (case F => walk_at "hyp"))
  | (refine' we_caught 10 ?F rfl rfl (Nat.le_of_ble_eq_true rfl) rfl (by dsimp only; decide +kernel) ?h; (case F => walk_at "hyp"))
  | (refine' we_caught 9 ?F rfl rfl (Nat.le_of_ble_eq_true rfl) rfl (by dsimp only; decide +kernel) ?h; (case F => walk_at "hyp"))
  | (refine' we_caught 8 ?F rfl rfl (Nat.le_of_ble_eq_true rfl) rfl (by dsimp only; decide +kernel) ?h; (case F => walk_at "hyp"))
  | (refine' we_caught 7 ?F rfl rfl (Nat.le_of_ble_eq_true rfl) rfl (by dsimp only; decide +kernel) ?h; (case F => walk_at "hyp"))
  | (refine' we_caught 6 ?F rfl rfl (Nat.le_of_ble_eq_true rfl) rfl (by dsimp only; decide +kernel) ?h; (case F => walk_at "hyp"))
  | (refine' we_caught 5 ?F rfl rfl (Nat.le_of_ble_eq_true rfl) rfl (by dsimp only; decide +kernel) ?h; (case F => walk_at "hyp"))
  | (refine' we_caught 4 ?F rfl rfl (Nat.le_of_ble_eq_true rfl) rfl (by dsimp only; decide +kernel) ?h; (case F => walk_at "hyp"))
  | (refine' we_caught 3 ?F rfl rfl (Nat.le_of_ble_eq_true rfl) rfl (by dsimp only; decide +kernel) ?h; (case F => walk_at "hyp")))
local macro_rules | `(tactic| walk_at "we") => `(tactic| first
  | ((with_reducible show WE _ (Expr.Name _ _) _ _); first
    | (refine' we_var _ ?a ?b ?c ?d ?h; (case a => walk_at "ix"); (case b => walk_at "vis"); (case c => first | exact rfl | exact no_at rfl (by assumption)); (case d => first | exact rfl | assumption); (all_goals (try dsimp only)))
    | (refine' we_ty ?a ?b ?c ?h; (case c => walk_at "kty"); (case b => walk_at "no"); (case a => exact rfl); (all_goals (try dsimp only)))
    | (refine' we_cls ?a ?b ?h; (case b => first | exact (CFx.g (by walk_at "hyp")) | walk_at "hyp"); (case a => exact rfl); (all_goals (try dsimp only))))
  | ((with_reducible show WE _ (Expr.Constant _ _ _) _ _); first | refine' we_int ?_ | refine' we_str ?_ | refine' we_bl ?_ | refine' we_non ?_)
  | ((with_reducible show WE _ (Expr.Tuple _ _ _) _ _); refine' we_tup ?_)
  | ((with_reducible show WE _ (Expr.List _ _) _ _); refine' we_lst ?_)
  | ((with_reducible show WE _ (Expr.BinOp _ _ _ _) _ _); refine' we_bin ?_)
  | ((with_reducible show WE _ (Expr.UnaryOp UnaryOp.USub _ _) _ _); refine' we_neg ?_)
  | ((with_reducible show WE _ (Expr.UnaryOp UnaryOp.Not _ _) _ _); refine' we_not ?_)
  | ((with_reducible show WE _ (Expr.BoolOp _ [_] _) _ _); refine' we_one ?_)
  | ((with_reducible show WE _ (Expr.BoolOp BoolOp.And _ _) _ _); refine' we_and ?_)
  | ((with_reducible show WE _ (Expr.BoolOp BoolOp.Or _ _) _ _); refine' we_or ?_)
  | ((with_reducible show WE _ (Expr.Compare _ [_] _ _) _ _); refine' we_cmp ?_)
  | ((with_reducible show WE _ (Expr.Compare _ [_, _] _ _) _ _); refine' we_chain ?_)
  | ((with_reducible show WE _ (Expr.IfExp _ _ _ _) _ _); refine' we_if ?_)
  | ((with_reducible show WE _ (Expr.Subscript _ (Expr.Slice _ _ _ _) _) _ _); refine' we_slice ?_)
  | ((with_reducible show WE _ (Expr.Subscript (Expr.Name _ _) _ _) _ _); first
    | (refine' we_oix (d0 := .oK _ _ _) _ ?a ?b ?c rfl ?h; (case a => walk_at "ix"); (case b => walk_at "vis"); (case c => exact rfl))
    | (refine' we_oix (d0 := .oT _ _ _) _ ?a ?b ?c rfl ?h; (case a => walk_at "ix"); (case b => walk_at "vis"); (case c => exact rfl))
    | (refine' we_olx _ ?a ?b ?c ?h; (case a => walk_at "ix"); (case b => walk_at "vis"); (case c => exact rfl))
    | refine' we_ix ?_)
  | ((with_reducible show WE _ (Expr.Subscript _ _ _) _ _); refine' we_ix ?_)
  | ((with_reducible show WE _ (Expr.Attribute (Expr.Name _ _) _ _) _ _); refine' we_fldO _ ?a ?b ?c ?d ?e ?f ?h; (case a => walk_at "ix"); (case b => walk_at "vis"); (case c => exact rfl); (case d => walk_at "cl"); (case e => walk_at "na"); (case f => exact rfl); (all_goals (try dsimp only)))
  | ((with_reducible show WE _ (Expr.Attribute _ _ _) _ _); refine' we_fld ?_)
  | ((with_reducible show WE _ (Expr.Call (Expr.Attribute _ "get" _) _ _ _) _ _); refine' we_dget1 ?_)
  | ((with_reducible show WE _ (Expr.Call (Expr.Attribute _ "join" _) _ _ _) _ _); refine' we_join ?_)
  | ((with_reducible show WE _ (Expr.Call (Expr.Name "len" _) [Expr.Name _ _] _ _) _ _); first
    | (refine' we_olen _ ?g ?m boot_len ?a ?b ?c ?_; (case a => walk_at "ix"); (case b => walk_at "vis"); (case c => exact rfl); (case m => walk_at "no"); (case g => exact rfl); (all_goals (try dsimp only)))
    | (refine' we_lenK _ ?g ?m boot_len ?a ?b ?c ?_; (case a => walk_at "ix"); (case b => walk_at "vis"); (case c => exact rfl); (case m => walk_at "no"); (case g => exact rfl); (all_goals (try dsimp only))))
  | ((with_reducible show WE _ (Expr.Call (Expr.Name _ _) [Expr.Lambda _ _ _ _] _ _) _ _); walk_at "lam")
  | ((with_reducible show WE _ (Expr.Call (Expr.Name _ _) _ _ _) _ _); first
    | (refine' we_call ?F ?hj ?hg ?h; (case F => walk_at "hyp"); (case hj => walk_at "j"); (case hg => exact rfl))
    | (refine' we_callT ?F ?hl ?hj ?hg ?h; (case F => walk_at "hyp"); (case hl => exact rfl); (case hj => walk_at "j"); (case hg => exact rfl))
    | (refine' we_make ?F ?hj ?hg ?h; (case F => walk_at "hyp"); (case hj => walk_at "j"); (case hg => exact rfl))
    | (refine' we_of_wo (wo_callB ?a ?b ?c ?h); (case c => walk_at "kw"); (case b => walk_at "no"); (case a => exact rfl))
    | (refine' we_of_wo (wo_callTy ?a ?b ?c ?h); (case c => walk_at "kty"); (case b => walk_at "no"); (case a => exact rfl))))
local macro_rules | `(tactic| walk_at "wo") => `(tactic| first
  | ((with_reducible show WO _ (Expr.Tuple _ _ _) _ _); refine' wo_tup ?_)
  | ((with_reducible show WO _ (Expr.List _ _) _ _); refine' wo_lst ?_)
  | ((with_reducible show WO _ (Expr.BinOp _ _ _ _) _ _); refine' wo_bin ?_)
  | ((with_reducible show WO _ (Expr.IfExp _ _ _ _) _ _); refine' wo_if ?_)
  | ((with_reducible show WO _ (Expr.Subscript _ (Expr.Slice _ _ _ _) _) _ _); refine' wo_slice ?_)
  | ((with_reducible show WO _ (Expr.Call (Expr.Name _ _) _ _ _) _ _); first
    | (refine' wo_call ?F ?hj ?hg ?h; (case F => walk_at "hyp"); (case hj => walk_at "j"); (case hg => exact rfl))
    | (refine' wo_callT ?F ?hl ?hj ?hg ?h; (case F => walk_at "hyp"); (case hl => exact rfl); (case hj => walk_at "j"); (case hg => exact rfl))
    | (refine' wo_make ?F ?hj ?hg ?h; (case F => walk_at "hyp"); (case hj => walk_at "j"); (case hg => exact rfl))
    | (refine' wo_callB ?a ?b ?c ?h; (case c => walk_at "kw"); (case b => walk_at "no"); (case a => exact rfl))
    | (refine' wo_callTy ?a ?b ?c ?h; (case c => walk_at "kty"); (case b => walk_at "no"); (case a => exact rfl)))
  | ((with_reducible show WO _ (Expr.ListComp _ _ _ _) _ _); fail "a comprehension")
  | ((with_reducible show WO _ (Expr.Dict _ _ _) _ _); fail "a dict")
  | refine' wo_of_we ?_)
local macro_rules | `(tactic| walk_at "wt") => `(tactic| first
  | ((with_reducible show WT _ (Expr.Compare _ [_] [Expr.Name _ _] _) _ _); first
    | (refine' wt_oin (d0 := .oK _ _ _) _ ?a ?b ?c rfl ?h; (case a => walk_at "ix"); (case b => walk_at "vis"); (case c => exact rfl))
    | (refine' wt_oin (d0 := .oT _ _ _) _ ?a ?b ?c rfl ?h; (case a => walk_at "ix"); (case b => walk_at "vis"); (case c => exact rfl))
    | (refine' wt_oni (d0 := .oK _ _ _) _ ?a ?b ?c rfl ?h; (case a => walk_at "ix"); (case b => walk_at "vis"); (case c => exact rfl))
    | (refine' wt_oni (d0 := .oT _ _ _) _ ?a ?b ?c rfl ?h; (case a => walk_at "ix"); (case b => walk_at "vis"); (case c => exact rfl))
    | refine' wt_cmp ?_)
  | ((with_reducible show WT _ (Expr.Compare _ [_] _ _) _ _); refine' wt_cmp ?_)
  | ((with_reducible show WT _ (Expr.Compare _ [_, _] _ _) _ _); refine' wt_chain ?_)
  | ((with_reducible show WT _ (Expr.BoolOp _ _ _) _ _); refine' wt_pw ?_)
  | ((with_reducible show WT _ (Expr.UnaryOp UnaryOp.Not _ _) _ _); refine' wt_not ?_)
  | ((with_reducible show WT _ (Expr.Name _ _) _ _); refine' wt_truth ?_)
  | ((with_reducible show WT _ (Expr.Call _ _ _ _) _ _); refine' wt_truth ?_)
  | ((with_reducible show WT _ (Expr.Subscript _ _ _) _ _); refine' wt_truth ?_)
  | ((with_reducible show WT _ (Expr.Attribute _ _ _) _ _); refine' wt_truth ?_))
local macro_rules | `(tactic| walk_at "ww") => `(tactic| first
  | ((with_reducible show WW _ (Expr.BoolOp BoolOp.And [_] _) _ _); refine' ww_and1 ?_)
  | ((with_reducible show WW _ (Expr.BoolOp BoolOp.Or [_] _) _ _); refine' ww_or1 ?_)
  | ((with_reducible show WW _ (Expr.BoolOp BoolOp.And _ _) _ _); refine' ww_and ?_)
  | ((with_reducible show WW _ (Expr.BoolOp BoolOp.Or _ _) _ _); refine' ww_or ?_))
local macro_rules | `(tactic| walk_at "wa") => `(tactic| first
  | ((with_reducible show WA _ [] _ _); refine' wa_nil ?_; try dsimp only)
  | ((with_reducible show WA _ (Expr.Starred _ _ :: _) _ _); refine' wa_star ?_)
  | refine' wa_cons ?_)
local macro_rules | `(tactic| walk_at "wop") => `(tactic| first
  | ((with_reducible show WOp _ none _ _); unfold WOp; try dsimp only)
  | ((with_reducible show WOp _ (some _) _ _); unfold WOp))
local macro_rules | `(tactic| walk_at "wg") => `(tactic| first
  | ((with_reducible show WG _ _ (Expr.Name _ _) _ _ _); refine' wg_name _ ?a ?b ?c ?h; (case a => walk_at "ix"); (case b => walk_at "loc"); (case c => decide); (all_goals (try dsimp only [List.set_cons_zero, List.set_cons_succ, wipeD, List.map_cons, List.map_nil])))
  | ((with_reducible show WG _ _ (Expr.Tuple _ _ _) _ _ _); refine' wg_tup rfl ?_)
  | ((with_reducible show WGs _ _ [] _ _ _); refine' wgs_nil ?_; (try dsimp only [List.set_cons_zero, List.set_cons_succ, wipeD, List.map_cons, List.map_nil]))
  | ((with_reducible show WGs _ _ (_ :: _) _ _ _); refine' wgs_cons ?_))
local macro_rules | `(tactic| walk_at "vo") => `(tactic| first
  | ((with_reducible show VO _ (binaryOp Operator.Add) _ _ _); first | refine vo_add ?_ | refine vo_catT ?_ ?_ | refine vo_catL ?_ ?_ | refine vo_addS ?_ ?_)
  | ((with_reducible show VO _ (binaryOp Operator.Sub) _ _ _); refine vo_sub ?_)
  | ((with_reducible show VO _ (binaryOp Operator.Mult) _ _ _); refine vo_mul ?_ ?_)
  | ((with_reducible show VO _ (compareOp CmpOp.Lt) _ _ _); refine vo_lt ?_)
  | ((with_reducible show VO _ (compareOp CmpOp.LtE) _ _ _); refine vo_le ?_)
  | ((with_reducible show VO _ (compareOp CmpOp.Gt) _ _ _); refine vo_gt ?_)
  | ((with_reducible show VO _ (compareOp CmpOp.GtE) _ _ _); refine vo_ge ?_)
  | ((with_reducible show VO _ (compareOp CmpOp.Eq) _ _ _); first | refine vo_eqi ?_ | refine vo_eqS ?_)
  | ((with_reducible show VO _ (compareOp CmpOp.NotEq) _ _ _); first | refine vo_nei ?_ | refine vo_neS ?_)
  | ((with_reducible show VO _ (compareOp CmpOp.In) _ _ _); first | refine' vo_din (DkAt.fT rfl) ?_ | refine' vo_din (DkAt.dK rfl) ?_ | refine' vo_din (DkAt.fK rfl) ?_ | refine' vo_din (DkAt.dT rfl) ?_ | refine' vo_inS Sq.tup ?_ | refine' vo_inS Sq.lst ?_)
  | ((with_reducible show VO _ (compareOp CmpOp.NotIn) _ _ _); first | refine' vo_dni (DkAt.fT rfl) ?_ | refine' vo_dni (DkAt.dK rfl) ?_ | refine' vo_dni (DkAt.fK rfl) ?_ | refine' vo_dni (DkAt.dT rfl) ?_ | refine' vo_niS Sq.tup ?_ | refine' vo_niS Sq.lst ?_)
  | ((with_reducible show VO _ (compareOp CmpOp.Is) _ _ _); first | refine vo_isN ?_ | refine vo_isB ?_)
  | ((with_reducible show VO _ (compareOp CmpOp.IsNot) _ _ _); first | refine vo_notN ?_ | refine vo_nisB ?_))
local macro_rules | `(tactic| walk_at "vc") => `(tactic| first
  | ((with_reducible show VC _ (Value.builtin "len") _ _); first | refine vc_lenL ?_ | refine vc_lenT ?_ | refine vc_lenS ?_ ?_ | refine vc_lenA ?_ | refine vc_lenScr ?_ | refine vc_lenDK ?_ | (refine' vc_lenQ ?h ?_; (case h => assumption)))
  | ((with_reducible show VC _ (Value.builtin "isinstance") _ _); first
    | refine vc_isi (k := true) rfl (by decide +kernel) ?_ | refine vc_isi (k := false) rfl (by decide +kernel) ?_
    | refine vc_isiT ["list", "tuple"] (k := true) rfl (by decide +kernel) ?_ | refine vc_isiT ["list", "tuple"] (k := false) rfl (by decide +kernel) ?_
    | refine vc_isiI (CFx.cl (by walk_at "hyp")) (CFx.isC (by walk_at "hyp")) ?_)
  | ((with_reducible show VC _ (Value.type "tuple") _ _); first | refine' vc_tupL ?_ | refine' vc_tupT ?_ | (refine' vc_tupS ?h ?_; (case h => assumption)))
  | ((with_reducible show VC _ (Value.type "list") _ _); first | refine vc_lstL ?_ | refine vc_lstT ?_ | refine vc_lstScr ?_ | (refine' vc_lstQ ?h ?_; (case h => assumption)))
  | ((with_reducible show VC _ (Value.type "int") _ _); first | refine vc_int ?_ | refine vc_intB ?_)
  | ((with_reducible show VC _ (Value.type "str") _ _); first | refine vc_strS ?_)
  | ((with_reducible show VC _ (Value.builtin "all") _ _); refine' vc_all ?_)
  | ((with_reducible show VC _ (Value.builtin "any") _ _); refine' vc_any ?_)
  | ((with_reducible show VC _ (Value.builtin "sum") _ _); refine' vc_sum ?_)
  | ((with_reducible show VC _ (Value.builtin "min") _ _); refine' vc_min ?_)
  | ((with_reducible show VC _ (Value.builtin "max") _ _); refine' vc_max ?_))
local macro_rules | `(tactic| walk_at "w1") => `(tactic| first
  | ((with_reducible show WE _ _ _ _); walk_at "we")
  | ((with_reducible show WA _ _ _ _); walk_at "wa")
  | ((with_reducible show WO _ _ _ _); walk_at "wo")
  | ((with_reducible show WT _ _ _ _); walk_at "wt")
  | ((with_reducible show WW _ _ _ _); walk_at "ww")
  | ((with_reducible show WB _ _ _ _); walk_at "wb")
  | ((with_reducible show WS _ _ _ _); walk_at "ws")
  | ((with_reducible show WG _ _ _ _ _ _); walk_at "wg")
  | ((with_reducible show WGs _ _ _ _ _ _); walk_at "wg")
  | ((with_reducible show WOp _ _ _ _); walk_at "wop")
  | ((with_reducible show WTs _ _ _ _); unfold WTs; try dsimp only)
  | ((with_reducible show VO _ _ _ _ _); walk_at "vo")
  | ((with_reducible show VC _ _ _ _); walk_at "vc")
  | ((with_reducible show _ ≤ sizeLine); walk_at "sz")
  | ((with_reducible show VI _ _ _ _); first | (refine' vi_tup ?h ?_; (case h => exact rfl)) | (refine' vi_lst ?h ?_; (case h => exact rfl)) | (refine' vi_lsA ?h ?_; (case h => exact rfl)) | (refine' vi_dict ?h ?_; (case h => exact DkAt.dK rfl)) | (refine' vi_dict ?h ?_; (case h => exact DkAt.fT rfl)))
  | ((with_reducible show VS _ _ _ _ _); first | refine' vs_tup ?_ | refine' vs_lst ?_)
  | ((with_reducible show IsSeq _ _ ∧ _); first | refine' And.intro (Or.inl rfl) ?_ | refine' And.intro (Or.inr rfl) ?_ | (refine' And.intro ?p ?_; (case p => assumption)))
  | ((with_reducible show _ ∧ _); refine' And.intro ?p ?_; (case p => walk_at "side"))
  | ((with_reducible show ∃ _, DkAt _ _ _ ∧ _); first | refine' ⟨_, DkAt.fT rfl, ?_⟩ | refine' ⟨_, DkAt.dK rfl, ?_⟩ | refine' ⟨_, DkAt.fK rfl, ?_⟩ | refine' ⟨_, DkAt.dT rfl, ?_⟩)
  | ((with_reducible show ∃ _, OkAt _ _ _ ∧ _); first | refine' ⟨_, OkAt.oT rfl, ?_⟩ | refine' ⟨_, OkAt.oK rfl, ?_⟩)
  | ((with_reducible show ∃ _, Its _ _ ∧ _); first | refine' ⟨_, Its.lst, ?_⟩ | refine' ⟨_, Its.tup, ?_⟩ | refine' ⟨_, Its.lsA, ?_⟩ | refine' ⟨_, Its.scr, ?_⟩ | (refine' ⟨_, Its.seq ?h, ?_⟩; (case h => assumption)))
  | ((with_reducible show if _ = true then _ else _); first | (refine if_t rfl ?_; try dsimp only) | (refine if_f rfl ?_; try dsimp only))
  | (refine' ⟨_, _, _, _, rfl, ?cl, ?na, ?lk, ?_⟩; (case cl => walk_at "cl"); (case na => walk_at "na"); (case lk => first | exact rfl | assumption); (all_goals (try dsimp only)))
  | ((with_reducible show WI _ _ _ _ _); walk_at "wi")
  | ((with_reducible show ∃ _, (_ : D) = _ ∧ _); refine' ⟨_, rfl, ?_⟩)
  | ((with_reducible show ∃ _, (_ : Option Bool) = some _ ∧ _); refine' ⟨_, rfl, ?_⟩)
  | ((with_reducible show ∃ _, atI _ _ = some _ ∧ _); refine' ⟨_, rfl, ?_⟩)
  | ((with_reducible show ∃ (_ : D) (_ : D), (_ : D) = _ ∧ _); refine' ⟨_, _, rfl, ?_⟩)
  | ((with_reducible show ∃ _, (_ : List D) = _ ∧ _); refine' ⟨_, rfl, ?_⟩)
  | ((with_reducible show ∃ _ _, (_ : List D) = _ ∧ _); refine' ⟨_, _, rfl, ?_⟩)
  | (with_reducible exact Bool.not_true)
  | (with_reducible exact (rfl : false = false))
  | walk_at "own"
  | ((fail_if_success (with_reducible show ∃ _, _)); walk_at "sp"))
local macro_rules | `(tactic| walk_at "wi") => `(tactic| first
  | ((with_reducible show WI _ _ (Expr.Call (Expr.Name "range" _) [_] _ _) _ _); refine' wi_range1 ?a ?b ?_; (case b => walk_at "no"); (case a => exact rfl))
  | ((with_reducible show WI _ _ (Expr.Call (Expr.Name "range" _) [_, _] _ _) _ _); refine' wi_range2 ?a ?b ?_; (case b => walk_at "no"); (case a => exact rfl))
  | ((with_reducible show WI _ _ (Expr.Call (Expr.Name "zip" _) _ _ _) _ _); refine' wi_zipX ?a ?b ?_; (case b => walk_at "no"); (case a => exact rfl))
  | ((with_reducible show WI _ _ (Expr.Call (Expr.Name "enumerate" _) _ _ _) _ _); refine' wi_enumT ?a ?b ?_; (case b => walk_at "no"); (case a => exact rfl))
  | refine' wi_its ?_)
local macro_rules | `(tactic| walk_at "own") => `(tactic| fail "no own step")
local macro_rules | `(tactic| walk_at "sp") => `(tactic| first | refine' Exists.intro _ (And.intro rfl ?_) | refine' Exists.intro _ (Exists.intro _ (And.intro rfl ?_)) | refine' Exists.intro _ (Exists.intro _ (Exists.intro _ (And.intro rfl ?_))) | refine' Exists.intro _ (Exists.intro _ (Exists.intro _ (Exists.intro _ (And.intro rfl ?_)))) | refine' Exists.intro _ (Exists.intro _ (Exists.intro _ (Exists.intro _ (Exists.intro _ (And.intro rfl ?_))))) | refine' Exists.intro _ (Exists.intro _ (Exists.intro _ (Exists.intro _ (Exists.intro _ (Exists.intro _ (And.intro rfl ?_)))))) | refine' Exists.intro _ (Exists.intro _ (Exists.intro _ (Exists.intro _ (Exists.intro _ (Exists.intro _ (Exists.intro _ (And.intro rfl ?_))))))) | refine' Exists.intro _ (Exists.intro _ (Exists.intro _ (Exists.intro _ (Exists.intro _ (Exists.intro _ (Exists.intro _ (Exists.intro _ (And.intro rfl ?_)))))))) | refine' Exists.intro _ (Exists.intro _ (Exists.intro _ (Exists.intro _ (Exists.intro _ (Exists.intro _ (Exists.intro _ (Exists.intro _ (Exists.intro _ (And.intro rfl ?_))))))))))
local macro_rules | `(tactic| walk_at "w") => `(tactic| repeat' (w_strict (walk_at "w1")))
local macro_rules | `(tactic| walk_at "till if") => `(tactic| repeat' ((fail_if_success (with_reducible show WB _ (Stmt.If _ _ _ _ :: _) _ _)); w_strict (walk_at "w1")))
def spRuns (C BN : Addr) : DSp := fun ds Q E => ∃ xs n A Z f d k, ds = [behD C xs n A Z f, d] ∧ itB d = some k ∧ (numB d = false → E ⟨BN, ["number", "what"], [d, .str "most"]⟩) ∧
  (∀ m : Nat, d = .int (m : Int) → 1 ≤ n ∧ xs.length ≤ 1000 ∧ (∀ a ∈ A, a.2.2 < n) ∧ (A.map fun a => (a.1, a.2.1)).Nodup ∧ (∀ j, (cat A xs.length j).length ≤ 10000 ∨ m < j) ∧ (m < 2 ^ 62 ∨ 2 ^ 63 ≤ m) ∧
    ∀ j, j ≤ m → (j = m ∨ lev A xs.length (j + 1) = []) → Q (.tup ((cat A xs.length j).map tN)))
theorem cat_len {A : List Ar} {b : Nat} : ∀ k, lev A b k ≠ [] → k + 1 ≤ (cat A b k).length
  | 0, _ => Nat.le_refl _
  | k + 1, h => by
    have h0 : lev A b k ≠ [] := fun e => h (lev_nil e 1)
    have h1 := cat_len k h0
    show k + 1 + 1 ≤ (cat A b k ++ (lev A b (k + 1)).map (·.1)).length
    rw [List.length_append, List.length_map]
    have := List.length_pos_iff.mpr h
    omega
theorem wi_rangeM {c : Cf} {Δ : Dl} {a tg : Expr} {pos p : Pos} {Q : List D → Prop} {m : Nat} (hm : m < 2 ^ 62 ∨ 2 ^ 63 ≤ m) (hg : Glo c "range") (hmg : c.mg "range" = none) (h : WE c a (fun x => x = .int (m : Int) ∧ Q (rng 0 m)) Δ) (hs : isStar a = false := by rfl) : WI c tg (.Call (.Name "range" p) [a] [] pos) Q Δ := by
  rcases hm with hm | hm
  · exact wi_range1 hg hmg (WE.mono h fun x ⟨e, q⟩ => ⟨m, e, ⟨by omega, by omega⟩, by rw [Int.toNat_natCast]; exact q⟩) hs
  · exact wi_rangeB hg hmg (WE.mono h fun x ⟨e, q⟩ => ⟨m, e, by omega, by rw [Int.toNat_natCast]; exact q⟩) hs
section
variable {P : Program} {w : World} {K : PySem.W.Frag} {mg : Str → Option Value} {base : Heap} {C NS BN : Addr}
abbrev s_num : Stmt := top 16
theorem sc_num : FnScope ["value"] ["value"] (defScope s_num) := ⟨rfl, rfl, rfl, by decide +kernel, rfl, by decide +kernel, by decide +kernel⟩
theorem ok_num {f : Addr} {fd : FuncData} (B : Bl mg) (F : Fun K "is_number" "is_number" s_num f fd) (d0 : Def P w K mg base 1 "is_whole" spWh) : FnOk P w K mg base (L2.CX P w) 2 f fd ["value"] (lift K spNum) := by
  refine def_ok F sc_num (fun ds Q E ⟨_, _, e, _⟩ => by rw [e]; rfl) fun ds Q E ⟨d, k, e, hk, q⟩ => ?_
  subst e
  have no := itB_own hk
  walk_at "w"
  cases d with
  | int i =>
    cases hk
    walk_at "w"
    exact q
  | _ => cases hk <;> exact if_f rfl q
abbrev s_runs : Stmt := top 29
theorem sc_runs : FnScope ["behaviour", "most", "found", "last", "turn", "later", "run", "stand", "deed"] ["behaviour", "most"] (defScope s_runs) := ⟨rfl, rfl, rfl, by decide +kernel, rfl, by decide +kernel, by decide +kernel⟩
theorem ok_runs {f : Addr} {fd : FuncData} (B : Bl mg) (BF : CFx K mg "Behaviour" C bN) (M0 : XMk P w K mg base "BadNumber" BN ["what", "number"]) (F : Fun K "runs" "runs" s_runs f fd) (d0 : Def P w K mg base 2 "is_number" spNum) (d1 : Def P w K mg base 5 "deeds_at" (spDeedsAt C NS)) : FnOk P w K mg base (L2.CX P w) 6 f fd ["behaviour", "most"] (lift K (spRuns C BN)) := by
  refine def_ok F sc_runs (fun ds Q E ⟨_, _, _, _, _, _, _, e, _⟩ => by rw [e]; rfl) fun ds Q E ⟨xs, n, A, Z, f, d, k, e, hk, hE, q⟩ => ?_
  subst e
  have no := itB_own hk
  walk_at "w"
  refine if_b (fun h => ?_) (fun h => ?_)
  · have h : numB d = false := by simpa using h
    have hE := hE h
    walk_at "w"
    exact hE
  have h : numB d = true := by simpa using h
  obtain ⟨m, rfl⟩ : ∃ m : Nat, d = .int (m : Int) := by
    cases d with
    | int i => exact ⟨i.toNat, by rw [Int.toNat_of_nonneg (of_decide_eq_true h)]⟩
    | _ => cases h
  obtain ⟨hn1, hx, rg, nd, hsz, hm, q⟩ := q m rfl
  refine wb_nil (wb_cons (ws_parO 2 3 rfl rfl (by decide) rfl rfl ?_ (fun env h => by cases env; cases h; rfl)))
  walk_at "w"
  refine ws_freeze 3 rfl rfl ?_
  refine wb_cons (ws_for [4] (wi_rangeM hm rfl B.range ?_))
  walk_at "w"
  refine ⟨fun pre Δ' => ∃ c4 c5 c6 c7, Δ' = [some (behD C xs n A Z f), some (.int (m : Int)), some (.ol ((cat A xs.length pre.length).map tN)), some (.lst ((lev A xs.length pre.length).map rsD)), c4, c5, c6, c7, none], ⟨_, _, _, _, rfl⟩, ?_, ?_⟩
  · intro pre x post Δ' hsp ⟨c4, c5, c6, c7, hI⟩
    subst hI
    obtain ⟨rfl, hlt⟩ := rng_split hsp
    have ok := lev_ok (b := xs.length) hn1 rg nd pre.length
    have z1 : (cat A xs.length pre.length).length ≤ 10000 := (hsz pre.length).resolve_right (by omega)
    have z2 : (cat A xs.length (pre.length + 1)).length ≤ 10000 := (hsz (pre.length + 1)).resolve_right (by omega)
    have e2 : (cat A xs.length (pre.length + 1)).length = (cat A xs.length pre.length).length + (lev A xs.length (pre.length + 1)).length := by show (cat A xs.length pre.length ++ (lev A xs.length (pre.length + 1)).map (·.1)).length = _; rw [List.length_append, List.length_map]
    walk_at "w"
    refine wb_cons (ws_for [6, 7] ?_)
    walk_at "w"
    refine ⟨fun pre2 Δ' => ∃ c6 c7, Δ' = [some (behD C xs n A Z f), some (.int (m : Int)), some (.ol ((cat A xs.length pre.length).map tN)), some (.lst ((lev A xs.length pre.length).map rsD)), some (.int (0 + (pre.length : Int))), some (.ol ((((lev A xs.length pre.length).take pre2.length).flatMap (nxt A xs.length)).map rsD)), c6, c7, none], ⟨_, _, rfl⟩, ?_, ?_⟩
    · intro pre2 y post2 Δ' hsp2 ⟨c6, c7, hI⟩
      subst hI
      obtain ⟨⟨r, s⟩, hr, rfl⟩ := map_at hsp2
      have okr := ok (r, s) (List.mem_of_getElem? hr)
      have hs : s < n := okr.s
      have hrl : r.length ≤ 10000 := by
        have h1 := cat_len pre.length (fun e => by rw [e] at hr; cases hr : (lev A xs.length pre.length)[pre2.length]? <;> simp_all)
        have h2 : r.length = pre.length := okr.l
        omega
      have hrl2 : (iN r).length ≤ 10000 := by rw [iN_len]; exact hrl
      show WG _ _ _ (D.tup [D.tup (iN r), D.int (s : Int)]) _ _
      walk_at "w"
      refine we_lc [("deed", 8)] (by dsimp only [Cf.blk]; decide +kernel) ?_
      walk_at "w"
      refine ⟨fun h => (by rw [idx_of hs] at h; cases h), fun s2 e2 hs2 => ?_⟩
      have e2 : s = s2 := by injection e2 with e2; omega
      subst e2
      generalize hD : (List.range xs.length).filter (fun d => (step A s d).isSome) = dl
      have hdl : ∀ d ∈ dl, ∃ t, step A s d = some t := fun d hd => by
        rw [← hD] at hd
        exact Option.isSome_iff_exists.mp (List.mem_filter.mp hd).2
      have hdll : dl.length ≤ 1000 := by rw [← hD]; have := List.length_filter_le (fun d => (step A s d).isSome) (List.range xs.length); rw [List.length_range] at this; omega
      have hnx : nxt A xs.length (r, s) = dl.map fun d => (r ++ [d], (step A s d).getD 0) := by unfold nxt; rw [hD]
      walk_at "w"
      have hfl : ((lev A xs.length pre.length).take (pre2.length + 1)).flatMap (nxt A xs.length) = ((lev A xs.length pre.length).take pre2.length).flatMap (nxt A xs.length) ++ dl.map fun d => (r ++ [d], (step A s d).getD 0) := by
        rw [take_at hr, List.flatMap_append, ← hnx, List.flatMap_cons, List.flatMap_nil, List.append_nil]
      have hfz : (((lev A xs.length pre.length).take (pre2.length + 1)).flatMap (nxt A xs.length)).length ≤ 10000 := by
        have h1 : (lev A xs.length (pre.length + 1)).length = (((lev A xs.length pre.length).take (pre2.length + 1)).flatMap (nxt A xs.length)).length + (((lev A xs.length pre.length).drop (pre2.length + 1)).flatMap (nxt A xs.length)).length := by
          show ((lev A xs.length pre.length).flatMap (nxt A xs.length)).length = _
          conv => lhs; rw [← List.take_append_drop (pre2.length + 1) (lev A xs.length pre.length)]
          rw [List.flatMap_append, List.length_append]
        omega
      refine ⟨fun pre3 acc => acc = ((dl.take pre3.length).map fun d => (r ++ [d], (step A s d).getD 0)).map rsD, rfl, ?_, ?_⟩
      · intro pre3 y post3 acc hsp3 hle hI
        subst hI
        obtain ⟨d, hd, rfl⟩ := map_at hsp3
        obtain ⟨t, ht⟩ := hdl d (List.mem_of_getElem? hd)
        walk_at "w"
        refine ⟨_, .inl rfl, ?_⟩
        walk_at "w"
        have hk : DkAt (.fT (A.map kA) (A.map vA)) (.tup [.int (s : Int), .int (d : Int)]) (some (.int (t : Int))) := by
          have e0 := look_A (A := A) (s := s) (d := d)
          rw [ht] at e0
          rw [show some (D.int (t : Int)) = _ from e0.symm]
          exact .fT rfl
        refine vi_dict hk ?_
        walk_at "w"
        rw [snoc_len, take_at hd, List.map_append, List.map_append, List.map_cons, List.map_nil, ht]
        show _ = _ ++ [rsD (r ++ [d], t)]
        unfold rsD iN
        rw [List.map_append]; rfl
      intro acc hle hI
      rw [iN_len, List.take_length] at hI
      subst hI
      rw [hfl] at hfz
      refine ⟨_, rfl, by rw [List.length_map, List.length_map, ← List.length_append, sizeLine_eq]; omega, ?_⟩
      walk_at "w"
      rw [snoc_len, hfl, List.map_append]
      exact ⟨_, _, rfl⟩
    · intro Δ' ⟨c6, c7, hI⟩
      subst hI
      rw [List.length_map, List.take_length]
      show WB _ _ _ _
      refine ws_freeze 5 rfl rfl ?_
      walk_at "w"
      refine we_lc [("run", 6), ("stand", 7)] (by dsimp only [Cf.blk]; decide +kernel) ?_
      walk_at "w"
      have eL : (lev A xs.length pre.length).flatMap (nxt A xs.length) = lev A xs.length (pre.length + 1) := rfl
      rw [eL]
      refine ⟨by rw [List.length_map, sizeLine_eq]; omega, fun pre3 acc => acc = ((lev A xs.length (pre.length + 1)).take pre3.length).map fun p => tN p.1, rfl, ?_, ?_⟩
      · intro pre3 y post3 acc hsp3 hle hI
        subst hI
        obtain ⟨⟨r, s⟩, hr, rfl⟩ := map_at hsp3
        show WG _ _ _ (D.tup [D.tup (iN r), D.int (s : Int)]) _ _
        walk_at "w"
        rw [snoc_len, take_at hr, List.map_append]; rfl
      intro acc hle hI
      rw [List.length_map, List.take_length] at hI
      subst hI
      refine ⟨_, rfl, by rw [List.length_map, List.length_map, sizeLine_eq]; omega, ?_⟩
      walk_at "w"
      have ec : (cat A xs.length pre.length).map tN ++ (lev A xs.length (pre.length + 1)).map (fun p => tN p.1) = (cat A xs.length (pre.length + 1)).map tN := by
        show _ = (cat A xs.length pre.length ++ (lev A xs.length (pre.length + 1)).map (·.1)).map tN
        rw [List.map_append, List.map_map]; rfl
      rw [ec]
      refine if_b (fun h => ?_) (fun h => ?_)
      · have hL : lev A xs.length (pre.length + 1) = [] := by
          cases e : lev A xs.length (pre.length + 1) with
          | nil => rfl
          | cons a b => rw [e] at h; cases h
        refine wb_cons (ws_break ?_)
        show WB _ _ _ _
        refine ws_freeze 2 rfl rfl ?_
        walk_at "w"
        exact q (pre.length + 1) hlt (.inr (lev_nil hL 1))
      · walk_at "w"
        rw [snoc_len]
        exact ⟨_, _, _, _, rfl⟩
  · intro Δ' ⟨c4, c5, c6, c7, hI⟩
    subst hI
    rw [rng_len]
    refine ws_freeze 2 rfl rfl ?_
    walk_at "w"
    exact q m (Nat.le_refl _) (.inl rfl)
end
end K15
end
section
set_option Elab.async false
set_option linter.all false
set_option maxRecDepth 100000
set_option maxHeartbeats 4000000
/-! LS: the runs of a level stand in order. -/
namespace K15
open PySem PySem.Spec PyProof.Rows L2 DL
def nI (r : List Nat) : List Int := r.map fun n : Nat => (n : Int)
theorem nI_app (r q : List Nat) : nI (r ++ q) = nI r ++ nI q := List.map_append ..
theorem lex_pre {s t : List Int} : ∀ r : List Int, lexL (r ++ s) (r ++ t) = lexL s t
  | [] => rfl
  | x :: r => by
    rw [List.cons_append, List.cons_append, lexL_cons, if_pos rfl]; exact lex_pre r
theorem lex_app {s t : List Int} : ∀ {r q : List Int}, r.length = q.length → lexL r q = true → lexL (r ++ s) (q ++ t) = true
  | [], [], _, h => by cases h
  | [], _ :: _, e, _ => by cases e
  | _ :: _, [], e, _ => by cases e
  | x :: r, y :: q, e, h => by
    rw [lexL_cons] at h
    rw [List.cons_append, List.cons_append, lexL_cons]
    by_cases hxy : x = y
    · rw [if_pos hxy] at h ⊢
      exact lex_app (by simpa using e) h
    · rw [if_neg hxy] at h ⊢; exact h
theorem lex_one {x y : Nat} (h : x < y) : lexL (nI [x]) (nI [y]) = true := by
  show lexL [(x : Int)] [(y : Int)] = true
  rw [lexL_cons, if_neg (by omega)]
  exact decide_eq_true (by omega)
def ltR (p q : RS) : Prop := lexL (nI p.1) (nI q.1) = true
theorem nxt_sorted (A : List Ar) (b : Nat) (p : RS) : (nxt A b p).Pairwise ltR := by
  unfold nxt
  rw [List.pairwise_map]
  refine (List.Pairwise.filter _ List.pairwise_lt_range).imp fun {x y} h => ?_
  show lexL (nI (p.1 ++ [x])) (nI (p.1 ++ [y])) = true
  rw [nI_app, nI_app, lex_pre]
  exact lex_one h
theorem lev_len (A : List Ar) (b : Nat) : ∀ k, ∀ p ∈ lev A b k, p.1.length = k
  | 0, p, h => by rw [List.mem_singleton.mp h]; rfl
  | k + 1, p, h => by
    obtain ⟨q, hq, hp⟩ := List.mem_flatMap.mp h
    unfold nxt at hp
    obtain ⟨d, _, rfl⟩ := List.mem_map.mp hp
    rw [List.length_append, lev_len A b k q hq]; rfl
theorem lev_sorted (A : List Ar) (b : Nat) : ∀ k, (lev A b k).Pairwise ltR
  | 0 => List.pairwise_singleton ..
  | k + 1 => by
    show ((lev A b k).flatMap (nxt A b)).Pairwise ltR
    rw [List.pairwise_flatMap]
    refine ⟨fun p _ => nxt_sorted A b p, ?_⟩
    refine (lev_sorted A b k).imp_of_mem fun {p q} hp hq h x hx y hy => ?_
    unfold nxt at hx hy
    obtain ⟨d, _, rfl⟩ := List.mem_map.mp hx
    obtain ⟨e, _, rfl⟩ := List.mem_map.mp hy
    show lexL (nI (p.1 ++ [d])) (nI (q.1 ++ [e])) = true
    rw [nI_app, nI_app]
    refine lex_app ?_ h
    unfold nI
    rw [List.length_map, List.length_map, lev_len A b k p hp, lev_len A b k q hq]
theorem sorted_same {l m : List (List Int)} (p : m.Perm l) (hl : l.Pairwise fun x y => lexL x y = true) (hm : m.Pairwise fun x y => lexL y x = false) : m = l := by
  refine List.Perm.eq_of_pairwise (le := fun x y => lexL y x = false) (fun x y _ _ h1 h2 => lexL_tot h2 h1) hm (hl.imp fun {x y} h => lexL_asym h) p
theorem tI_nI (r : List Nat) : tI (nI r) = tN r := by
  show D.tup ((nI r).map D.int) = D.tup (iN r)
  unfold nI iN; rw [List.map_map]; rfl
theorem vc_sortLev {c : Cf} {Q : D → Prop} {A : List Ar} {b k : Nat} (q : Q (.ol ((lev A b (k + 1)).map fun p => tN p.1))) : VC c (.builtin "sorted") [.lst ((lev A b (k + 1)).map fun p => tN p.1)] Q := by
  have e : ((lev A b (k + 1)).map fun p => tN p.1) = ((lev A b (k + 1)).map fun p => nI p.1).map tI := by
    rw [List.map_map]
    exact List.map_congr_left fun p _ => (tI_nI p.1).symm
  rw [e]
  refine vc_sortN (fun ns h => ?_) fun m hp hm => ?_
  · obtain ⟨p, hp, rfl⟩ := List.mem_map.mp h
    intro z
    have := lev_len A b (k + 1) p hp
    have h2 := congrArg List.length z
    unfold nI at h2
    rw [List.length_map, this] at h2
    cases h2
  · rw [sorted_same hp (List.pairwise_map.mpr (lev_sorted A b (k + 1))) hm, ← e]; exact q
end K15
end
section
set_option Elab.async false
set_option linter.all false
set_option maxRecDepth 100000
set_option maxHeartbeats 4000000
/-! LT: the law's own runs. -/
namespace K15
open PySem PySem.Spec PyProof.Rows L2 DL
local macro_rules | `(tactic| walk_at "len") => `(tactic| simp only [rng_len, iN_len, sL_len, iL_len, List.length_map, List.length_append, List.length_cons, List.length_nil, List.length_replicate, List.length_take, List.length_drop, Int.toNat_natCast, Nat.zero_add, Nat.reduceAdd, Nat.reduceLeDiff])
local macro_rules | `(tactic| walk_at "sz") => `(tactic| first | (with_reducible assumption) | (refine' sz ?_; omega) | (refine' sz ?_; walk_at "len"; (try omega); done))
local macro_rules | `(tactic| walk_at "side") => `(tactic| first | (with_reducible assumption) | ((with_reducible show isOk _ _); first | assumption | exact isOk_bl | exact isOk_int | exact isOk_str | exact isOk_non) | (with_reducible rfl) | omega | walk_at "sz" | ((with_reducible show _ = _); rfl) | (walk_at "len"; (try omega); done))
local macro_rules | `(tactic| walk_at "ix") => `(tactic| ((try dsimp only [Cf.blk, lamC]); (with_reducible first | exact ix0 | exact ix1 | exact ix2 | exact ix3 | exact ix4 | exact ix5 | exact ix6 | exact ix7 | exact ix8 | exact ix9 | exact ix10 | exact ix11 | exact ix12 | exact ix13 | exact ix14 | exact ix15 | exact ix16 | exact ix17 | exact ix18 | exact ix19)))
local macro_rules | `(tactic| walk_at "vis") => `(tactic| first | exact .inl rfl | exact .inr (.inl rfl) | exact .inr (.inr rfl))
local macro_rules | `(tactic| walk_at "loc") => `(tactic| first | exact .inl rfl | exact .inr rfl)
local macro_rules | `(tactic| walk_at "hyp") => `(tactic| ((try dsimp only [Cf.blk, lamC]); with_reducible assumption))
local macro_rules | `(tactic| walk_at "j") => `(tactic| first | exact Nat.le_of_ble_eq_true rfl | (dsimp only [Cf.blk, lamC]; omega))
local macro_rules | `(tactic| walk_at "cl") => `(tactic| first | exact (CFx.cls (by walk_at "hyp")) | walk_at "hyp")
local macro_rules | `(tactic| walk_at "na") => `(tactic| first | exact CFx.no (by walk_at "hyp") _ (by repeat (first | exact List.Mem.head _ | apply List.Mem.tail)) | walk_at "hyp")
local macro_rules | `(tactic| walk_at "kw") => `(tactic| with_reducible first | exact boot_len | exact boot_isinstance | exact boot_all | exact boot_any | exact boot_sum | exact boot_min | exact boot_max | exact boot_sorted | exact boot_abs | exact boot_repr)
local macro_rules | `(tactic| walk_at "kty") => `(tactic| with_reducible first | exact boot_tuple | exact boot_list | exact boot_int | exact boot_str | exact boot_bool)
local macro_rules | `(tactic| walk_at "no") => `(tactic| ((try dsimp only [Cf.blk, lamC]); with_reducible first | assumption | exact Bl.isinstance (by assumption) | exact Bl.len (by assumption) | exact Bl.int (by assumption) | exact Bl.bool (by assumption) | exact Bl.str (by assumption) | exact Bl.list (by assumption) | exact Bl.tuple (by assumption) | exact Bl.range (by assumption) | exact Bl.all (by assumption) | exact Bl.any (by assumption) | exact Bl.zip (by assumption) | exact Bl.enumerate (by assumption) | exact Bl.min (by assumption)))
local macro_rules | `(tactic| walk_at "wb") => `(tactic| first
  | ((with_reducible show WB _ [] _ _); refine' wb_nil ?_; try dsimp only [List.set_cons_zero, List.set_cons_succ])
  | (refine' wb_cons ?_; walk_at "ws"))
local macro_rules | `(tactic| walk_at "ws") => `(tactic| first
  | ((with_reducible show WS _ (Stmt.If _ _ _ _) _ _); refine' ws_if ?_)
  | ((with_reducible show WS _ (Stmt.Return (some (Expr.Name _ _)) _) _ _); refine' ws_retO _ ?a ?b ?c ?h; (case a => walk_at "ix"); (case b => walk_at "vis"); (case c => exact rfl); (all_goals (try dsimp only)))
  | ((with_reducible show WS _ (Stmt.Return (some _) _) _ _); refine' ws_ret ?_)
  | ((with_reducible show WS _ (Stmt.Return none _) _ _); refine' ws_retN ?_)
  | ((with_reducible show WS _ (Stmt.Assign [Expr.Name _ _] (Expr.ListComp _ _ _ _) _) _ _); fail "a comprehension")
  | ((with_reducible show WS _ (Stmt.Assign [Expr.Name _ _] (Expr.Dict [] [] _) _) _ _); fail "a dict")
  | ((with_reducible show WS _ (Stmt.Assign [Expr.Name _ _] _ _) _ _); refine' ws_set _ ?a ?b ?h; (case a => walk_at "ix"); (case b => walk_at "loc"))
  | ((with_reducible show WS _ (Stmt.Assign [Expr.Attribute _ _ _] _ _) _ _); refine' ws_fld _ ?a ?b ?c ?d ?e ?f ?g ?h; (case a => walk_at "ix"); (case b => walk_at "vis"); (case c => exact rfl); (case d => walk_at "cl"); (case e => walk_at "na"); (case f => exact rfl); (case g => decide))
  | ((with_reducible show WS _ (Stmt.AugAssign (Expr.Name _ _) Operator.Add _ _) _ _); refine' ws_augAdd _ ?a ?b ?c ?h; (case a => walk_at "ix"); (case b => walk_at "loc"); (case c => exact rfl))
  | ((with_reducible show WS _ (Stmt.Expr (Expr.Call (Expr.Attribute (Expr.Name _ _) "append" _) _ _ _) _) _ _); refine' ws_app _ ?a ?b ?c ?h; (case a => walk_at "ix"); (case b => walk_at "vis"); (case c => exact rfl))
  | ((with_reducible show WS _ (Stmt.Expr (Expr.Call (Expr.Attribute (Expr.Name _ _) "extend" _) _ _ _) _) _ _); refine' ws_ext _ ?a ?b ?c ?h; (case a => walk_at "ix"); (case b => walk_at "vis"); (case c => exact rfl))
  | ((with_reducible show WS _ (Stmt.Expr (Expr.Constant (Const.str _) _ _) _) _ _); refine' ws_doc ?_)
  | ((with_reducible show WS _ (Stmt.Expr (Expr.Call (Expr.Name _ _) _ _ _) _) _ _); refine' ws_expr (Q := fun _ => True) ?_)
  | ((with_reducible show WS _ (Stmt.Assign [Expr.Subscript (Expr.Name _ _) _ _] _ _) _ _); first
    | (refine' ws_putT _ ?a ?b ?c ?h; (case a => walk_at "ix"); (case b => walk_at "vis"); (case c => exact rfl))
    | (refine' ws_putK _ ?a ?b ?c ?h; (case a => walk_at "ix"); (case b => walk_at "vis"); (case c => exact rfl))
    | (refine' ws_item _ ?a ?b ?c ?h; (case a => walk_at "ix"); (case b => walk_at "vis"); (case c => exact rfl)))
  | ((with_reducible show WS _ (Stmt.Raise _ _ _) _ _); refine' ws_raise ?m ?j ?g ?h (hn := ?n); (case m => walk_at "hyp"); (case n => decide); (case j => walk_at "j"); (case g => exact rfl))
  | ((with_reducible show WS _ (Stmt.Pass _) _ _); refine' ws_pass ?_)
  | ((with_reducible show WS _ (Stmt.Break _) _ _); refine' ws_break ?_)
  | ((with_reducible show WS _ (Stmt.Continue _) _ _); refine' ws_cont ?_))
local macro_rules | `(tactic| walk_at "lam") => `(tactic| first
  | (refine' we_caught 16 ?F rfl rfl (Nat.le_of_ble_eq_true rfl) rfl (by dsimp only; decide +kernel) ?h; (case F => walk_at "hyp"))
  | (refine' we_caught 15 ?F rfl rfl (Nat.le_of_ble_eq_true rfl) rfl (by dsimp only; decide +kernel) ?h; (case F => walk_at "hyp"))
  | (refine' we_caught 14 ?F rfl rfl (Nat.le_of_ble_eq_true rfl) rfl (by dsimp only; decide +kernel) ?h; (case F => walk_at "hyp"))
  | (refine' we_caught 13 ?F rfl rfl (Nat.le_of_ble_eq_true rfl) rfl (by dsimp only; decide +kernel) ?h; (case F => walk_at "hyp"))
  | (refine' we_caught 12 ?F rfl rfl (Nat.le_of_ble_eq_true rfl) rfl (by dsimp only; decide +kernel) ?h; (case F => walk_at "hyp"))
  | (refine' we_caught 11 ?F rfl rfl (Nat.le_of_ble_eq_true rfl) rfl (by dsimp only; decide +kernel) ?h; (case F => walk_at "hyp"))
  | (refine' we_caught 10 ?F rfl rfl (Nat.le_of_ble_eq_true rfl) rfl (by dsimp only; decide +kernel) ?h; (case F => walk_at "hyp"))
  | (refine' we_caught 9 ?F rfl rfl (Nat.le_of_ble_eq_true rfl) rfl (by dsimp only; decide +kernel) ?h; (case F => walk_at "hyp"))
  | (refine' we_caught 8 ?F rfl rfl (Nat.le_of_ble_eq_true rfl) rfl (by dsimp only; decide +kernel) ?h; (case F => walk_at "hyp"))
  | (refine' we_caught 7 ?F rfl rfl (Nat.le_of_ble_eq_true rfl) rfl (by dsimp only; decide +kernel) ?h; (case F => walk_at "hyp"))
  | (refine' we_caught 6 ?F rfl rfl (Nat.le_of_ble_eq_true rfl) rfl (by dsimp only; decide +kernel) ?h; (case F => walk_at "hyp"))
  | (refine' we_caught 5 ?F rfl rfl (Nat.le_of_ble_eq_true rfl) rfl (by dsimp only; decide +kernel) ?h; (case F => walk_at "hyp"))
  | (refine' we_caught 4 ?F rfl rfl (Nat.le_of_ble_eq_true rfl) rfl (by dsimp only; decide +kernel) ?h; (case F => walk_at "hyp"))
  | (refine' we_caught 3 ?F rfl rfl (Nat.le_of_ble_eq_true rfl) rfl (by dsimp only; decide +kernel) ?h; (case F => walk_at "hyp")))
local macro_rules | `(tactic| walk_at "we") => `(tactic| first
  | ((with_reducible show WE _ (Expr.Name _ _) _ _); first
    | (refine' we_var _ ?a ?b ?c ?d ?h; (case a => walk_at "ix"); (case b => walk_at "vis"); (case c => first | exact rfl | exact no_at rfl (by assumption)); (case d => first | exact rfl | assumption); (all_goals (try dsimp only)))
    | (refine' we_ty ?a ?b ?c ?h; (case c => walk_at "kty"); (case b => walk_at "no"); (case a => exact rfl); (all_goals (try dsimp only)))
    | (refine' we_cls ?a ?b ?h; (case b => first | exact (CFx.g (by walk_at "hyp")) | walk_at "hyp"); (case a => exact rfl); (all_goals (try dsimp only))))
  | ((with_reducible show WE _ (Expr.Constant _ _ _) _ _); first | refine' we_int ?_ | refine' we_str ?_ | refine' we_bl ?_ | refine' we_non ?_)
  | ((with_reducible show WE _ (Expr.Tuple _ _ _) _ _); refine' we_tup ?_)
  | ((with_reducible show WE _ (Expr.List _ _) _ _); refine' we_lst ?_)
  | ((with_reducible show WE _ (Expr.BinOp _ _ _ _) _ _); refine' we_bin ?_)
  | ((with_reducible show WE _ (Expr.UnaryOp UnaryOp.USub _ _) _ _); refine' we_neg ?_)
  | ((with_reducible show WE _ (Expr.UnaryOp UnaryOp.Not _ _) _ _); refine' we_not ?_)
  | ((with_reducible show WE _ (Expr.BoolOp _ [_] _) _ _); refine' we_one ?_)
  | ((with_reducible show WE _ (Expr.BoolOp BoolOp.And _ _) _ _); refine' we_and ?_)
  | ((with_reducible show WE _ (Expr.BoolOp BoolOp.Or _ _) _ _); refine' we_or ?_)
  | ((with_reducible show WE _ (Expr.Compare _ [_] _ _) _ _); refine' we_cmp ?_)
  | ((with_reducible show WE _ (Expr.Compare _ [_, _] _ _) _ _); refine' we_chain ?_)
  | ((with_reducible show WE _ (Expr.IfExp _ _ _ _) _ _); refine' we_if ?_)
  | ((with_reducible show WE _ (Expr.Subscript _ (Expr.Slice _ _ _ _) _) _ _); refine' we_slice ?_)
  | ((with_reducible show WE _ (Expr.Subscript (Expr.Name _ _) _ _) _ _); first
    | (refine' we_oix (d0 := .oK _ _ _) _ ?a ?b ?c rfl ?h; (case a => walk_at "ix"); (case b => walk_at "vis"); (case c => exact rfl))
    | (refine' we_oix (d0 := .oT _ _ _) _ ?a ?b ?c rfl ?h; (case a => walk_at "ix"); (case b => walk_at "vis"); (case c => exact rfl))
    | (refine' we_olx _ ?a ?b ?c ?h; (case a => walk_at "ix"); (case b => walk_at "vis"); (case c => exact rfl))
    | refine' we_ix ?_)
  | ((with_reducible show WE _ (Expr.Subscript _ _ _) _ _); refine' we_ix ?_)
  | ((with_reducible show WE _ (Expr.Attribute (Expr.Name _ _) _ _) _ _); refine' we_fldO _ ?a ?b ?c ?d ?e ?f ?h; (case a => walk_at "ix"); (case b => walk_at "vis"); (case c => exact rfl); (case d => walk_at "cl"); (case e => walk_at "na"); (case f => exact rfl); (all_goals (try dsimp only)))
  | ((with_reducible show WE _ (Expr.Attribute _ _ _) _ _); refine' we_fld ?_)
  | ((with_reducible show WE _ (Expr.Call (Expr.Attribute _ "get" _) _ _ _) _ _); refine' we_dget1 ?_)
  | ((with_reducible show WE _ (Expr.Call (Expr.Attribute _ "join" _) _ _ _) _ _); refine' we_join ?_)
  | ((with_reducible show WE _ (Expr.Call (Expr.Name "len" _) [Expr.Name _ _] _ _) _ _); first
    | (refine' we_olen _ ?g ?m boot_len ?a ?b ?c ?_; (case a => walk_at "ix"); (case b => walk_at "vis"); (case c => exact rfl); (case m => walk_at "no"); (case g => exact rfl); (all_goals (try dsimp only)))
    | (refine' we_lenK _ ?g ?m boot_len ?a ?b ?c ?_; (case a => walk_at "ix"); (case b => walk_at "vis"); (case c => exact rfl); (case m => walk_at "no"); (case g => exact rfl); (all_goals (try dsimp only))))
  | ((with_reducible show WE _ (Expr.Call (Expr.Name _ _) [Expr.Lambda _ _ _ _] _ _) _ _); walk_at "lam")
  | ((with_reducible show WE _ (Expr.Call (Expr.Name _ _) _ _ _) _ _); first
    | (refine' we_call ?F ?hj ?hg ?h; (case F => walk_at "hyp"); (case hj => walk_at "j"); (case hg => exact rfl))
    | (refine' we_callT ?F ?hl ?hj ?hg ?h; (case F => walk_at "hyp"); (case hl => exact rfl); (case hj => walk_at "j"); (case hg => exact rfl))
    | (refine' we_make ?F ?hj ?hg ?h; (case F => walk_at "hyp"); (case hj => walk_at "j"); (case hg => exact rfl))
    | (refine' we_of_wo (wo_callB ?a ?b ?c ?h); (case c => walk_at "kw"); (case b => walk_at "no"); (case a => exact rfl))
    | (refine' we_of_wo (wo_callTy ?a ?b ?c ?h); (case c => walk_at "kty"); (case b => walk_at "no"); (case a => exact rfl))))
local macro_rules | `(tactic| walk_at "wo") => `(tactic| first
  | ((with_reducible show WO _ (Expr.Tuple _ _ _) _ _); refine' wo_tup ?_)
  | ((with_reducible show WO _ (Expr.List _ _) _ _); refine' wo_lst ?_)
  | ((with_reducible show WO _ (Expr.BinOp _ _ _ _) _ _); refine' wo_bin ?_)
  | ((with_reducible show WO _ (Expr.IfExp _ _ _ _) _ _); refine' wo_if ?_)
  | ((with_reducible show WO _ (Expr.Subscript _ (Expr.Slice _ _ _ _) _) _ _); refine' wo_slice ?_)
  | ((with_reducible show WO _ (Expr.Call (Expr.Name _ _) _ _ _) _ _); first
    | (refine' wo_call ?F ?hj ?hg ?h; (case F => walk_at "hyp"); (case hj => walk_at "j"); (case hg => exact rfl))
    | (refine' wo_callT ?F ?hl ?hj ?hg ?h; (case F => walk_at "hyp"); (case hl => exact rfl); (case hj => walk_at "j"); (case hg => exact rfl))
    | (refine' wo_make ?F ?hj ?hg ?h; (case F => walk_at "hyp"); (case hj => walk_at "j"); (case hg => exact rfl))
    | (refine' wo_callB ?a ?b ?c ?h; (case c => walk_at "kw"); (case b => walk_at "no"); (case a => exact rfl))
    | (refine' wo_callTy ?a ?b ?c ?h; (case c => walk_at "kty"); (case b => walk_at "no"); (case a => exact rfl)))
  | ((with_reducible show WO _ (Expr.ListComp _ _ _ _) _ _); fail "a comprehension")
  | ((with_reducible show WO _ (Expr.Dict _ _ _) _ _); fail "a dict")
  | refine' wo_of_we ?_)
local macro_rules | `(tactic| walk_at "wt") => `(tactic| first
  | ((with_reducible show WT _ (Expr.Compare _ [_] [Expr.Name _ _] _) _ _); first
    | (refine' wt_oin (d0 := .oK _ _ _) _ ?a ?b ?c rfl ?h; (case a => walk_at "ix"); (case b => walk_at "vis"); (case c => exact rfl))
    | (refine' wt_oin (d0 := .oT _ _ _) _ ?a ?b ?c rfl ?h; (case a => walk_at "ix"); (case b => walk_at "vis"); (case c => exact rfl))
    | (refine' wt_oni (d0 := .oK _ _ _) _ ?a ?b ?c rfl ?h; (case a => walk_at "ix"); (case b => walk_at "vis"); (case c => exact rfl))
    | (refine' wt_oni (d0 := .oT _ _ _) _ ?a ?b ?c rfl ?h; (case a => walk_at "ix"); (case b => walk_at "vis"); (case c => exact rfl))
    | refine' wt_cmp ?_)
  | ((with_reducible show WT _ (Expr.Compare _ [_] _ _) _ _); refine' wt_cmp ?_)
  | ((with_reducible show WT _ (Expr.Compare _ [_, _] _ _) _ _); refine' wt_chain ?_)
  | ((with_reducible show WT _ (Expr.BoolOp _ _ _) _ _); refine' wt_pw ?_)
  | ((with_reducible show WT _ (Expr.UnaryOp UnaryOp.Not _ _) _ _); refine' wt_not ?_)
  | ((with_reducible show WT _ (Expr.Name _ _) _ _); refine' wt_truth ?_)
  | ((with_reducible show WT _ (Expr.Call _ _ _ _) _ _); refine' wt_truth ?_)
  | ((with_reducible show WT _ (Expr.Subscript _ _ _) _ _); refine' wt_truth ?_)
  | ((with_reducible show WT _ (Expr.Attribute _ _ _) _ _); refine' wt_truth ?_))
local macro_rules | `(tactic| walk_at "ww") => `(tactic| first
  | ((with_reducible show WW _ (Expr.BoolOp BoolOp.And [_] _) _ _); refine' ww_and1 ?_)
  | ((with_reducible show WW _ (Expr.BoolOp BoolOp.Or [_] _) _ _); refine' ww_or1 ?_)
  | ((with_reducible show WW _ (Expr.BoolOp BoolOp.And _ _) _ _); refine' ww_and ?_)
  | ((with_reducible show WW _ (Expr.BoolOp BoolOp.Or _ _) _ _); refine' ww_or ?_))
local macro_rules | `(tactic| walk_at "wa") => `(tactic| first
  | ((with_reducible show WA _ [] _ _); refine' wa_nil ?_; try dsimp only)
  | ((with_reducible show WA _ (Expr.Starred _ _ :: _) _ _); refine' wa_star ?_)
  | refine' wa_cons ?_)
local macro_rules | `(tactic| walk_at "wop") => `(tactic| first
  | ((with_reducible show WOp _ none _ _); unfold WOp; try dsimp only)
  | ((with_reducible show WOp _ (some _) _ _); unfold WOp))
local macro_rules | `(tactic| walk_at "wg") => `(tactic| first
  | ((with_reducible show WG _ _ (Expr.Name _ _) _ _ _); refine' wg_name _ ?a ?b ?c ?h; (case a => walk_at "ix"); (case b => walk_at "loc"); (case c => decide); (all_goals (try dsimp only [List.set_cons_zero, List.set_cons_succ, wipeD, List.map_cons, List.map_nil])))
  | ((with_reducible show WG _ _ (Expr.Tuple _ _ _) _ _ _); refine' wg_tup rfl ?_)
  | ((with_reducible show WGs _ _ [] _ _ _); refine' wgs_nil ?_; (try dsimp only [List.set_cons_zero, List.set_cons_succ, wipeD, List.map_cons, List.map_nil]))
  | ((with_reducible show WGs _ _ (_ :: _) _ _ _); refine' wgs_cons ?_))
local macro_rules | `(tactic| walk_at "vo") => `(tactic| first
  | ((with_reducible show VO _ (binaryOp Operator.Add) _ _ _); first | refine vo_add ?_ | refine vo_catT ?_ ?_ | refine vo_catL ?_ ?_ | refine vo_addS ?_ ?_)
  | ((with_reducible show VO _ (binaryOp Operator.Sub) _ _ _); refine vo_sub ?_)
  | ((with_reducible show VO _ (binaryOp Operator.Mult) _ _ _); refine vo_mul ?_ ?_)
  | ((with_reducible show VO _ (compareOp CmpOp.Lt) _ _ _); refine vo_lt ?_)
  | ((with_reducible show VO _ (compareOp CmpOp.LtE) _ _ _); refine vo_le ?_)
  | ((with_reducible show VO _ (compareOp CmpOp.Gt) _ _ _); refine vo_gt ?_)
  | ((with_reducible show VO _ (compareOp CmpOp.GtE) _ _ _); refine vo_ge ?_)
  | ((with_reducible show VO _ (compareOp CmpOp.Eq) _ _ _); first | refine vo_eqi ?_ | refine vo_eqS ?_)
  | ((with_reducible show VO _ (compareOp CmpOp.NotEq) _ _ _); first | refine vo_nei ?_ | refine vo_neS ?_)
  | ((with_reducible show VO _ (compareOp CmpOp.In) _ _ _); first | refine' vo_din (DkAt.fT rfl) ?_ | refine' vo_din (DkAt.dK rfl) ?_ | refine' vo_din (DkAt.fK rfl) ?_ | refine' vo_din (DkAt.dT rfl) ?_ | refine' vo_inS Sq.tup ?_ | refine' vo_inS Sq.lst ?_)
  | ((with_reducible show VO _ (compareOp CmpOp.NotIn) _ _ _); first | refine' vo_dni (DkAt.fT rfl) ?_ | refine' vo_dni (DkAt.dK rfl) ?_ | refine' vo_dni (DkAt.fK rfl) ?_ | refine' vo_dni (DkAt.dT rfl) ?_ | refine' vo_niS Sq.tup ?_ | refine' vo_niS Sq.lst ?_)
  | ((with_reducible show VO _ (compareOp CmpOp.Is) _ _ _); first | refine vo_isN ?_ | refine vo_isB ?_)
  | ((with_reducible show VO _ (compareOp CmpOp.IsNot) _ _ _); first | refine vo_notN ?_ | refine vo_nisB ?_))
local macro_rules | `(tactic| walk_at "vc") => `(tactic| first
  | ((with_reducible show VC _ (Value.builtin "len") _ _); first | refine vc_lenL ?_ | refine vc_lenT ?_ | refine vc_lenS ?_ ?_ | refine vc_lenA ?_ | refine vc_lenScr ?_ | refine vc_lenDK ?_ | (refine' vc_lenQ ?h ?_; (case h => assumption)))
  | ((with_reducible show VC _ (Value.builtin "isinstance") _ _); first
    | refine vc_isi (k := true) rfl (by decide +kernel) ?_ | refine vc_isi (k := false) rfl (by decide +kernel) ?_
    | refine vc_isiT ["list", "tuple"] (k := true) rfl (by decide +kernel) ?_ | refine vc_isiT ["list", "tuple"] (k := false) rfl (by decide +kernel) ?_
    | refine vc_isiI (CFx.cl (by walk_at "hyp")) (CFx.isC (by walk_at "hyp")) ?_)
  | ((with_reducible show VC _ (Value.type "tuple") _ _); first | refine' vc_tupL ?_ | refine' vc_tupT ?_ | (refine' vc_tupS ?h ?_; (case h => assumption)))
  | ((with_reducible show VC _ (Value.type "list") _ _); first | refine vc_lstL ?_ | refine vc_lstT ?_ | refine vc_lstScr ?_ | (refine' vc_lstQ ?h ?_; (case h => assumption)))
  | ((with_reducible show VC _ (Value.type "int") _ _); first | refine vc_int ?_ | refine vc_intB ?_)
  | ((with_reducible show VC _ (Value.type "str") _ _); first | refine vc_strS ?_)
  | ((with_reducible show VC _ (Value.builtin "all") _ _); refine' vc_all ?_)
  | ((with_reducible show VC _ (Value.builtin "any") _ _); refine' vc_any ?_)
  | ((with_reducible show VC _ (Value.builtin "sum") _ _); refine' vc_sum ?_)
  | ((with_reducible show VC _ (Value.builtin "min") _ _); refine' vc_min ?_)
  | ((with_reducible show VC _ (Value.builtin "max") _ _); refine' vc_max ?_))
local macro_rules | `(tactic| walk_at "w1") => `(tactic| first
  | ((with_reducible show WE _ _ _ _); walk_at "we")
  | ((with_reducible show WA _ _ _ _); walk_at "wa")
  | ((with_reducible show WO _ _ _ _); walk_at "wo")
  | ((with_reducible show WT _ _ _ _); walk_at "wt")
  | ((with_reducible show WW _ _ _ _); walk_at "ww")
  | ((with_reducible show WB _ _ _ _); walk_at "wb")
  | ((with_reducible show WS _ _ _ _); walk_at "ws")
  | ((with_reducible show WG _ _ _ _ _ _); walk_at "wg")
  | ((with_reducible show WGs _ _ _ _ _ _); walk_at "wg")
  | ((with_reducible show WOp _ _ _ _); walk_at "wop")
  | ((with_reducible show WTs _ _ _ _); unfold WTs; try dsimp only)
  | ((with_reducible show VO _ _ _ _ _); walk_at "vo")
  | ((with_reducible show VC _ _ _ _); walk_at "vc")
  | ((with_reducible show _ ≤ sizeLine); walk_at "sz")
  | ((with_reducible show VI _ _ _ _); first | (refine' vi_tup ?h ?_; (case h => exact rfl)) | (refine' vi_lst ?h ?_; (case h => exact rfl)) | (refine' vi_lsA ?h ?_; (case h => exact rfl)) | (refine' vi_dict ?h ?_; (case h => exact DkAt.dK rfl)) | (refine' vi_dict ?h ?_; (case h => exact DkAt.fT rfl)))
  | ((with_reducible show VS _ _ _ _ _); first | refine' vs_tup ?_ | refine' vs_lst ?_)
  | ((with_reducible show IsSeq _ _ ∧ _); first | refine' And.intro (Or.inl rfl) ?_ | refine' And.intro (Or.inr rfl) ?_ | (refine' And.intro ?p ?_; (case p => assumption)))
  | ((with_reducible show _ ∧ _); refine' And.intro ?p ?_; (case p => walk_at "side"))
  | ((with_reducible show ∃ _, DkAt _ _ _ ∧ _); first | refine' ⟨_, DkAt.fT rfl, ?_⟩ | refine' ⟨_, DkAt.dK rfl, ?_⟩ | refine' ⟨_, DkAt.fK rfl, ?_⟩ | refine' ⟨_, DkAt.dT rfl, ?_⟩)
  | ((with_reducible show ∃ _, OkAt _ _ _ ∧ _); first | refine' ⟨_, OkAt.oT rfl, ?_⟩ | refine' ⟨_, OkAt.oK rfl, ?_⟩)
  | ((with_reducible show ∃ _, Its _ _ ∧ _); first | refine' ⟨_, Its.lst, ?_⟩ | refine' ⟨_, Its.tup, ?_⟩ | refine' ⟨_, Its.lsA, ?_⟩ | refine' ⟨_, Its.scr, ?_⟩ | (refine' ⟨_, Its.seq ?h, ?_⟩; (case h => assumption)))
  | ((with_reducible show if _ = true then _ else _); first | (refine if_t rfl ?_; try dsimp only) | (refine if_f rfl ?_; try dsimp only))
  | (refine' ⟨_, _, _, _, rfl, ?cl, ?na, ?lk, ?_⟩; (case cl => walk_at "cl"); (case na => walk_at "na"); (case lk => first | exact rfl | assumption); (all_goals (try dsimp only)))
  | ((with_reducible show WI _ _ _ _ _); walk_at "wi")
  | ((with_reducible show ∃ _, (_ : D) = _ ∧ _); refine' ⟨_, rfl, ?_⟩)
  | ((with_reducible show ∃ _, (_ : Option Bool) = some _ ∧ _); refine' ⟨_, rfl, ?_⟩)
  | ((with_reducible show ∃ _, atI _ _ = some _ ∧ _); refine' ⟨_, rfl, ?_⟩)
  | ((with_reducible show ∃ (_ : D) (_ : D), (_ : D) = _ ∧ _); refine' ⟨_, _, rfl, ?_⟩)
  | ((with_reducible show ∃ _, (_ : List D) = _ ∧ _); refine' ⟨_, rfl, ?_⟩)
  | ((with_reducible show ∃ _ _, (_ : List D) = _ ∧ _); refine' ⟨_, _, rfl, ?_⟩)
  | (with_reducible exact Bool.not_true)
  | (with_reducible exact (rfl : false = false))
  | walk_at "own"
  | ((fail_if_success (with_reducible show ∃ _, _)); walk_at "sp"))
local macro_rules | `(tactic| walk_at "wi") => `(tactic| first
  | ((with_reducible show WI _ _ (Expr.Call (Expr.Name "range" _) [_] _ _) _ _); refine' wi_range1 ?a ?b ?_; (case b => walk_at "no"); (case a => exact rfl))
  | ((with_reducible show WI _ _ (Expr.Call (Expr.Name "range" _) [_, _] _ _) _ _); refine' wi_range2 ?a ?b ?_; (case b => walk_at "no"); (case a => exact rfl))
  | ((with_reducible show WI _ _ (Expr.Call (Expr.Name "zip" _) _ _ _) _ _); refine' wi_zipX ?a ?b ?_; (case b => walk_at "no"); (case a => exact rfl))
  | ((with_reducible show WI _ _ (Expr.Call (Expr.Name "enumerate" _) _ _ _) _ _); refine' wi_enumT ?a ?b ?_; (case b => walk_at "no"); (case a => exact rfl))
  | refine' wi_its ?_)
local macro_rules | `(tactic| walk_at "own") => `(tactic| fail "no own step")
local macro_rules | `(tactic| walk_at "sp") => `(tactic| first | refine' Exists.intro _ (And.intro rfl ?_) | refine' Exists.intro _ (Exists.intro _ (And.intro rfl ?_)) | refine' Exists.intro _ (Exists.intro _ (Exists.intro _ (And.intro rfl ?_))) | refine' Exists.intro _ (Exists.intro _ (Exists.intro _ (Exists.intro _ (And.intro rfl ?_)))) | refine' Exists.intro _ (Exists.intro _ (Exists.intro _ (Exists.intro _ (Exists.intro _ (And.intro rfl ?_))))) | refine' Exists.intro _ (Exists.intro _ (Exists.intro _ (Exists.intro _ (Exists.intro _ (Exists.intro _ (And.intro rfl ?_)))))) | refine' Exists.intro _ (Exists.intro _ (Exists.intro _ (Exists.intro _ (Exists.intro _ (Exists.intro _ (Exists.intro _ (And.intro rfl ?_))))))) | refine' Exists.intro _ (Exists.intro _ (Exists.intro _ (Exists.intro _ (Exists.intro _ (Exists.intro _ (Exists.intro _ (Exists.intro _ (And.intro rfl ?_)))))))) | refine' Exists.intro _ (Exists.intro _ (Exists.intro _ (Exists.intro _ (Exists.intro _ (Exists.intro _ (Exists.intro _ (Exists.intro _ (Exists.intro _ (And.intro rfl ?_))))))))))
local macro_rules | `(tactic| walk_at "w") => `(tactic| repeat' (w_strict (walk_at "w1")))
local macro_rules | `(tactic| walk_at "till if") => `(tactic| repeat' ((fail_if_success (with_reducible show WB _ (Stmt.If _ _ _ _ :: _) _ _)); w_strict (walk_at "w1")))
def spAll : DSp := fun ds Q _ => ∃ xs n A, ∃ m : Nat, ds = [rowsD xs n A, .int (m : Int)] ∧ 1 ≤ n ∧ xs.length ≤ 1000 ∧ A.length ≤ 1000 ∧ (∀ a ∈ A, a.2.2 < n) ∧ (A.map fun a => (a.1, a.2.1)).Nodup ∧ m ≤ 1000 ∧ (∀ j, j ≤ m → (cat A xs.length j).length ≤ 10000) ∧ Q (.lst ((cat A xs.length m).map tN))
section
variable {P : Program} {w : World} {K : PySem.W.Frag} {mg : Str → Option Value} {base : Heap} {C NS BN : Addr}
abbrev s_all : Stmt := top 44
theorem sc_all : FnScope ["rows", "most", "found", "last", "length", "longer", "run", "deed"] ["rows", "most"] (defScope s_all) := ⟨rfl, rfl, rfl, by decide +kernel, rfl, by decide +kernel, by decide +kernel⟩
theorem ok_all {f : Addr} {fd : FuncData} (B : Bl mg) (bsort : mg "sorted" = none) (F : Fun K "_law_all_runs" "_law_all_runs" s_all f fd) (d0 : Def P w K mg base 2 "_law_behind" spLBehind) : FnOk P w K mg base (L2.CX P w) 3 f fd ["rows", "most"] (lift K spAll) := by
  refine def_ok F sc_all (fun ds Q E ⟨_, _, _, _, e, _⟩ => by rw [e]; rfl) fun ds Q E ⟨xs, n, A, m, e, hn1, hx, hA, rg, nd, hm, hsz, q⟩ => ?_
  subst e
  refine wb_cons (ws_parO 2 3 rfl rfl (by decide) rfl rfl ?_ (fun env h => by cases env; cases h; rfl))
  walk_at "w"
  refine ws_freeze 2 rfl rfl ?_
  refine ws_freeze 3 rfl rfl ?_
  refine wb_cons (ws_for [4] ?_)
  walk_at "w"
  rw [Int.toNat_natCast]
  refine ⟨fun pre Δ' => ∃ c4 c5 c6 c7, Δ' = [some (rowsD xs n A), some (.int (m : Int)), some (.lst ((cat A xs.length pre.length).map tN)), some (.lst ((lev A xs.length pre.length).map fun p => tN p.1)), c4, c5, c6, c7], ⟨_, _, _, _, rfl⟩, ?_, ?_⟩
  · intro pre x post Δ' hsp ⟨c4, c5, c6, c7, hI⟩
    subst hI
    obtain ⟨rfl, hlt⟩ := rng_split hsp
    have ok := lev_ok (b := xs.length) hn1 rg nd pre.length
    have z2 := hsz (pre.length + 1) hlt
    have e2 : (cat A xs.length (pre.length + 1)).length = (cat A xs.length pre.length).length + (lev A xs.length (pre.length + 1)).length := by show (cat A xs.length pre.length ++ (lev A xs.length (pre.length + 1)).map (·.1)).length = _; rw [List.length_append, List.length_map]
    walk_at "w"
    refine wb_cons (ws_for [6] ?_)
    walk_at "w"
    refine ⟨fun pre2 Δ' => ∃ c6 c7, Δ' = [some (rowsD xs n A), some (.int (m : Int)), some (.lst ((cat A xs.length pre.length).map tN)), some (.lst ((lev A xs.length pre.length).map fun p => tN p.1)), some (.int (0 + (pre.length : Int))), some (.ol ((((lev A xs.length pre.length).take pre2.length).flatMap (nxt A xs.length)).map fun p => tN p.1)), c6, c7], ⟨_, _, rfl⟩, ?_, ?_⟩
    · intro pre2 y post2 Δ' hsp2 ⟨c6, c7, hI⟩
      subst hI
      obtain ⟨⟨r, s⟩, hr, rfl⟩ := map_at hsp2
      have okr := ok (r, s) (List.mem_of_getElem? hr)
      have hrl : r.length = pre.length := okr.l
      have hrl2 : (iN r).length ≤ 1000 := by rw [iN_len]; omega
      have hg : goes A 0 r = some s := okr.g
      show WG _ _ _ (D.tup (iN r)) _ _
      walk_at "w"
      refine wb_cons (ws_for [7] ?_)
      walk_at "w"
      rw [sL_len, Int.toNat_natCast]
      have hfl : ((lev A xs.length pre.length).take (pre2.length + 1)).flatMap (nxt A xs.length) = ((lev A xs.length pre.length).take pre2.length).flatMap (nxt A xs.length) ++ nxt A xs.length (r, s) := by
        rw [take_at hr, List.flatMap_append, List.flatMap_cons, List.flatMap_nil, List.append_nil]
      have hfz : (((lev A xs.length pre.length).take (pre2.length + 1)).flatMap (nxt A xs.length)).length ≤ 10000 := by
        have h1 : (lev A xs.length (pre.length + 1)).length = (((lev A xs.length pre.length).take (pre2.length + 1)).flatMap (nxt A xs.length)).length + (((lev A xs.length pre.length).drop (pre2.length + 1)).flatMap (nxt A xs.length)).length := by
          show ((lev A xs.length pre.length).flatMap (nxt A xs.length)).length = _
          conv => lhs; rw [← List.take_append_drop (pre2.length + 1) (lev A xs.length pre.length)]
          rw [List.flatMap_append, List.length_append]
        omega
      rw [hfl, List.length_append] at hfz
      have hn : ∀ k, (((List.range xs.length).take k).filter fun d => (step A s d).isSome).length ≤ xs.length := fun k => by
        have h1 := List.length_filter_le (fun d => (step A s d).isSome) ((List.range xs.length).take k)
        rw [List.length_take, List.length_range] at h1
        omega
      refine ⟨fun pre3 Δ' => ∃ c7, Δ' = [some (rowsD xs n A), some (.int (m : Int)), some (.lst ((cat A xs.length pre.length).map tN)), some (.lst ((lev A xs.length pre.length).map fun p => tN p.1)), some (.int (0 + (pre.length : Int))), some (.ol ((((lev A xs.length pre.length).take pre2.length).flatMap (nxt A xs.length)).map (fun p => tN p.1) ++ (((List.range xs.length).take pre3.length).filter fun d => (step A s d).isSome).map fun d => tN (r ++ [d]))), some (.tup (iN r)), c7], ⟨_, by rw [List.length_nil, List.take_zero, List.filter_nil, List.map_nil, List.append_nil]⟩, ?_, ?_⟩
      · intro pre3 z post3 Δ' hsp3 ⟨c7, hI⟩
        subst hI
        obtain ⟨rfl, hlt3⟩ := rng_split hsp3
        rw [Int.zero_add]
        have hgs : goes A 0 (r ++ [pre3.length]) = step A s pre3.length := by rw [goes_snoc, hg]; rfl
        have eN : iN r ++ [.int (pre3.length : Int)] = iN (r ++ [pre3.length]) := by unfold iN; rw [List.map_append]; rfl
        have hn3 := hn pre3.length
        cases hs2 : step A s pre3.length with
        | none =>
          walk_at "w"
          rw [show (D.tup (iN r ++ [.int (pre3.length : Int)])).frz = .tup (iN (r ++ [pre3.length])) by rw [eN]; rfl]
          refine ⟨xs, n, A, r ++ [pre3.length], rfl, hA, ?_⟩
          rw [hgs, hs2]
          walk_at "w"
          rw [snoc_len, rng_take hlt3, List.filter_append, List.filter_cons_of_neg (by rw [hs2]; exact Bool.false_ne_true), List.filter_nil, List.append_nil]
          exact ⟨_, rfl⟩
        | some t =>
          walk_at "w"
          rw [show (D.tup (iN r ++ [.int (pre3.length : Int)])).frz = .tup (iN (r ++ [pre3.length])) by rw [eN]; rfl]
          refine ⟨xs, n, A, r ++ [pre3.length], rfl, hA, ?_⟩
          rw [hgs, hs2]
          walk_at "w"
          rw [snoc_len, rng_take hlt3, List.filter_append, List.filter_cons_of_pos (by rw [hs2]; rfl), List.filter_nil, List.map_append, ← List.append_assoc]
          rw [show (D.tup (iN r ++ [.int (pre3.length : Int)])).frz = tN (r ++ [pre3.length]) by rw [eN]; rfl]
          exact ⟨_, rfl⟩
      · intro Δ' ⟨c7, hI⟩
        subst hI
        have e3 : (List.range xs.length).take xs.length = List.range xs.length := List.take_of_length_le (by rw [List.length_range]; exact Nat.le_refl _)
        rw [rng_len, e3]
        walk_at "w"
        rw [snoc_len, hfl, List.map_append]
        have : (nxt A xs.length (r, s)).map (fun p => tN p.1) = ((List.range xs.length).filter fun d => (step A s d).isSome).map fun d => tN (r ++ [d]) := by unfold nxt; rw [List.map_map]; rfl
        rw [this]
        exact ⟨_, _, rfl⟩
    · intro Δ' ⟨c6, c7, hI⟩
      subst hI
      rw [List.length_map, List.take_length]
      have eL : (lev A xs.length pre.length).flatMap (nxt A xs.length) = lev A xs.length (pre.length + 1) := rfl
      rw [eL]
      show WB _ _ _ _
      refine ws_freeze 5 rfl rfl ?_
      refine wb_cons (ws_parO 2 3 rfl rfl (by decide) rfl rfl ?_ (fun env h => by cases env; cases h; rfl))
      walk_at "w"
      refine vc_sortLev ?_
      repeat' ((fail_if_success (with_reducible show WB _ [] _ _)); w_strict (walk_at "w1"))
      refine ws_freeze 2 rfl rfl ?_
      have ec : (cat A xs.length pre.length).map tN ++ (lev A xs.length (pre.length + 1)).map (fun p => tN p.1) = (cat A xs.length (pre.length + 1)).map tN := by
        show _ = (cat A xs.length pre.length ++ (lev A xs.length (pre.length + 1)).map (·.1)).map tN
        rw [List.map_append, List.map_map]; rfl
      rw [ec]
      walk_at "w"
      rw [snoc_len]
      exact ⟨_, _, _, _, rfl⟩
  · intro Δ' ⟨c4, c5, c6, c7, hI⟩
    subst hI
    rw [rng_len]
    walk_at "w"
    exact q
end
end K15
end
section
set_option Elab.async false
set_option linter.all false
set_option maxRecDepth 100000
set_option maxHeartbeats 4000000
/-! LU: sizes of levels; the runs up to a length; a line. -/
namespace K15
open PySem PySem.Spec PyProof.Rows L2 DL
theorem nxt_len (A : List Ar) (b : Nat) (p : RS) : (nxt A b p).length ≤ b := by
  unfold nxt
  rw [List.length_map]
  have := List.length_filter_le (fun d => (step A p.2 d).isSome) (List.range b)
  rw [List.length_range] at this; exact this
theorem fm_len {α β : Type} {f : α → List β} {b : Nat} (h : ∀ a, (f a).length ≤ b) : ∀ l : List α, (l.flatMap f).length ≤ b * l.length
  | [] => Nat.zero_le _
  | a :: l => by
    rw [List.flatMap_cons, List.length_append, List.length_cons, Nat.mul_succ]
    have := fm_len h l
    have := h a
    omega
theorem lev_grow (A : List Ar) (b k : Nat) : (lev A b (k + 1)).length ≤ b * (lev A b k).length := fm_len (nxt_len A b) _
theorem cat_succ (A : List Ar) (b k : Nat) : (cat A b (k + 1)).length = (cat A b k).length + (lev A b (k + 1)).length := by
  show (cat A b k ++ (lev A b (k + 1)).map (·.1)).length = _
  rw [List.length_append, List.length_map]
theorem cat_ge (A : List Ar) (b : Nat) : ∀ k, (lev A b k).length ≤ (cat A b k).length
  | 0 => Nat.le_refl _
  | k + 1 => by rw [cat_succ]; omega
theorem cat_next {A : List Ar} {b k : Nat} (hb : b ≤ 4) (h : (cat A b k).length < 60) : (cat A b (k + 1)).length ≤ 300 := by
  rw [cat_succ]
  have h1 := lev_grow A b k
  have h2 := cat_ge A b k
  have h3 : b * (lev A b k).length ≤ 4 * 59 := Nat.mul_le_mul hb (by omega)
  omega
theorem cat_mem {A : List Ar} {b : Nat} : ∀ k, ∀ r ∈ cat A b k, r.length ≤ k
  | 0, r, h => by rw [List.mem_singleton.mp h]; exact Nat.le_refl _
  | k + 1, r, h => by
    rcases List.mem_append.mp h with h | h
    · have := cat_mem k r h; omega
    · obtain ⟨p, hp, rfl⟩ := List.mem_map.mp h
      rw [lev_len A b (k + 1) p hp]; exact Nat.le_refl _
theorem cat_cut (A : List Ar) (b j : Nat) : ∀ e, (cat A b (j + e)).filter (fun r => decide (r.length ≤ j)) = cat A b j
  | 0 => List.filter_eq_self.mpr fun r hr => decide_eq_true (cat_mem j r hr)
  | e + 1 => by
    show (cat A b (j + e) ++ (lev A b (j + e + 1)).map (·.1)).filter _ = _
    rw [List.filter_append, cat_cut A b j e]
    have : ((lev A b (j + e + 1)).map (·.1)).filter (fun r => decide (r.length ≤ j)) = [] := by
      rw [List.filter_eq_nil_iff]
      intro r hr
      obtain ⟨p, hp, rfl⟩ := List.mem_map.mp hr
      rw [lev_len A b (j + e + 1) p hp, decide_eq_false (by omega)]
      exact Bool.false_ne_true
    rw [this, List.append_nil]
/-- a line of stands -/
def lnA (n : Nat) : List Ar := (List.range n).map fun i => (i, 0, i + 1)
theorem lnA_nd (n : Nat) : ((lnA n).map fun a => (a.1, a.2.1)).Nodup := by
  unfold lnA
  rw [List.map_map]
  refine List.pairwise_map.mpr (List.nodup_range.imp fun {x y} h e => h ?_)
  have := congrArg Prod.fst e
  exact this
theorem lnA_mem {n : Nat} {a : Ar} : a ∈ lnA n ↔ a.1 < n ∧ a.2.1 = 0 ∧ a.2.2 = a.1 + 1 := by
  unfold lnA
  rw [List.mem_map]
  constructor
  · rintro ⟨i, hi, rfl⟩
    exact ⟨List.mem_range.mp hi, rfl, rfl⟩
  · rintro ⟨h1, h2, h3⟩
    exact ⟨a.1, List.mem_range.mpr h1, by rw [← h3, ← h2]⟩
theorem ln_step {n s : Nat} (h : s < n) : step (lnA n) s 0 = some (s + 1) := (step_mem (lnA_nd n)).mpr (lnA_mem.mpr ⟨h, rfl, rfl⟩)
theorem ln_stop (n : Nat) : step (lnA n) n 0 = none := by
  cases e : step (lnA n) n 0 with
  | none => rfl
  | some t => exact absurd (lnA_mem.mp ((step_mem (lnA_nd n)).mp e)).1 (Nat.lt_irrefl _)
theorem ln_lev (n : Nat) : ∀ k, k ≤ n → lev (lnA n) 1 k = [(List.replicate k 0, k)]
  | 0, _ => rfl
  | k + 1, h => by
    show (lev (lnA n) 1 k).flatMap (nxt (lnA n) 1) = _
    rw [ln_lev n k (by omega), List.flatMap_cons, List.flatMap_nil, List.append_nil]
    unfold nxt
    rw [show List.range 1 = [0] from rfl, List.filter_cons_of_pos (by rw [ln_step (by omega)]; rfl), List.filter_nil, List.map_cons, List.map_nil, ln_step (show k < n by omega), List.replicate_succ']
    rfl
theorem ln_end (n : Nat) : lev (lnA n) 1 (n + 1) = [] := by
  show (lev (lnA n) 1 n).flatMap (nxt (lnA n) 1) = _
  rw [ln_lev n n (Nat.le_refl _), List.flatMap_cons, List.flatMap_nil, List.append_nil]
  unfold nxt
  rw [show List.range 1 = [0] from rfl, List.filter_cons_of_neg (by rw [ln_stop]; exact Bool.false_ne_true)]; rfl
theorem ln_cat (n : Nat) : ∀ k, k ≤ n → cat (lnA n) 1 k = (List.range (k + 1)).map fun i => List.replicate i 0
  | 0, _ => rfl
  | k + 1, h => by
    show cat (lnA n) 1 k ++ (lev (lnA n) 1 (k + 1)).map (·.1) = _
    rw [ln_cat n k (by omega), ln_lev n (k + 1) h, List.range_succ (n := k + 1), List.map_append]; rfl
theorem ln_goes (n : Nat) : ∀ k, k ≤ n → goes (lnA n) 0 (List.replicate k 0) = some k
  | 0, _ => rfl
  | k + 1, h => by
    rw [List.replicate_succ', goes_snoc, ln_goes n k (by omega)]
    exact ln_step (by omega)
end K15
end
section
set_option Elab.async false
set_option linter.all false
set_option maxRecDepth 100000
set_option maxHeartbeats 4000000
/-! LW: the rows of a line. -/
namespace K15
open PySem PySem.Spec PyProof.Rows L2 DL
theorem zerosN : ∀ k : Nat, (List.replicate k [D.int 0]).flatten = iN (List.replicate k 0)
  | 0 => rfl
  | k + 1 => by rw [List.replicate_succ, List.flatten_cons, zerosN k, List.replicate_succ]; rfl
theorem ln_rw {l : Nat} (h : l < 30) : Rw ["d"] (l + 2) (lnA (l + 1)) where
  nm := ⟨fun x hx => by rw [List.mem_singleton] at hx; subst hx; exact nmB_nm (by decide +kernel), by decide, by decide, by decide⟩
  x := by decide
  n1 := by omega
  n2 := by omega
  rg := fun a ha => by
    obtain ⟨h1, h2, h3⟩ := lnA_mem.mp ha
    refine ⟨by omega, by rw [h2]; decide, by omega⟩
  nd := lnA_nd _
  so := by
    unfold lnA
    refine List.pairwise_map.mpr (List.pairwise_lt_range.imp fun {x y} hxy => ?_)
    show TS.code 64 [(x : Int), 0, ((x + 1 : Nat) : Int)] ≤ TS.code 64 [(y : Int), 0, ((y + 1 : Nat) : Int)]
    show (x : Int) * 64 ^ 2 + (0 * 64 ^ 1 + (((x + 1 : Nat) : Int) * 64 ^ 0 + 0)) ≤ (y : Int) * 64 ^ 2 + (0 * 64 ^ 1 + (((y + 1 : Nat) : Int) * 64 ^ 0 + 0))
    omega
  len := by unfold lnA; rw [List.length_map, List.length_range]; omega
  re := fun s hs => ⟨_, ln_goes (l + 1) s (by omega)⟩
theorem ln_rows (l : Nat) : D.tup [.tup [.str "d"], .int (1 + (l : Int) + 1), .tup ((List.range (l + 1)).map fun i : Nat => D.tup [.int (i : Int), .int 0, .int ((i : Int) + 1)])] = rowsD ["d"] (l + 2) (lnA (l + 1)) := by
  unfold rowsD lnA
  rw [List.map_map, show (1 : Int) + (l : Int) + 1 = ((l + 2 : Nat) : Int) by omega]
  rfl
end K15
end
section
set_option Elab.async false
set_option linter.all false
set_option maxRecDepth 100000
set_option maxHeartbeats 4000000
/-! LV: the law. -/
namespace K15
open PySem PySem.Spec PyProof.Rows L2 DL
local macro_rules | `(tactic| walk_at "len") => `(tactic| simp only [rng_len, iN_len, sL_len, iL_len, List.length_map, List.length_append, List.length_cons, List.length_nil, List.length_replicate, List.length_take, List.length_drop, Int.toNat_natCast, Nat.zero_add, Nat.reduceAdd, Nat.reduceLeDiff])
local macro_rules | `(tactic| walk_at "sz") => `(tactic| first | (with_reducible assumption) | (refine' sz ?_; omega) | (refine' sz ?_; walk_at "len"; (try omega); done))
local macro_rules | `(tactic| walk_at "side") => `(tactic| first | (with_reducible assumption) | ((with_reducible show isOk _ _); first | assumption | exact isOk_bl | exact isOk_int | exact isOk_str | exact isOk_non) | (with_reducible rfl) | omega | walk_at "sz" | ((with_reducible show _ = _); rfl) | (walk_at "len"; (try omega); done))
local macro_rules | `(tactic| walk_at "ix") => `(tactic| ((try dsimp only [Cf.blk, lamC]); (with_reducible first | exact ix0 | exact ix1 | exact ix2 | exact ix3 | exact ix4 | exact ix5 | exact ix6 | exact ix7 | exact ix8 | exact ix9 | exact ix10 | exact ix11 | exact ix12 | exact ix13 | exact ix14 | exact ix15 | exact ix16 | exact ix17 | exact ix18 | exact ix19)))
local macro_rules | `(tactic| walk_at "vis") => `(tactic| first | exact .inl rfl | exact .inr (.inl rfl) | exact .inr (.inr rfl))
local macro_rules | `(tactic| walk_at "loc") => `(tactic| first | exact .inl rfl | exact .inr rfl)
local macro_rules | `(tactic| walk_at "hyp") => `(tactic| ((try dsimp only [Cf.blk, lamC]); with_reducible assumption))
local macro_rules | `(tactic| walk_at "j") => `(tactic| first | exact Nat.le_of_ble_eq_true rfl | (dsimp only [Cf.blk, lamC]; omega))
local macro_rules | `(tactic| walk_at "cl") => `(tactic| first | exact (CFx.cls (by walk_at "hyp")) | walk_at "hyp")
local macro_rules | `(tactic| walk_at "na") => `(tactic| first | exact CFx.no (by walk_at "hyp") _ (by repeat (first | exact List.Mem.head _ | apply List.Mem.tail)) | walk_at "hyp")
local macro_rules | `(tactic| walk_at "kw") => `(tactic| with_reducible first | exact boot_len | exact boot_isinstance | exact boot_all | exact boot_any | exact boot_sum | exact boot_min | exact boot_max | exact boot_sorted | exact boot_abs | exact boot_repr)
local macro_rules | `(tactic| walk_at "kty") => `(tactic| with_reducible first | exact boot_tuple | exact boot_list | exact boot_int | exact boot_str | exact boot_bool)
local macro_rules | `(tactic| walk_at "no") => `(tactic| ((try dsimp only [Cf.blk, lamC]); with_reducible first | assumption | exact Bl.isinstance (by assumption) | exact Bl.len (by assumption) | exact Bl.int (by assumption) | exact Bl.bool (by assumption) | exact Bl.str (by assumption) | exact Bl.list (by assumption) | exact Bl.tuple (by assumption) | exact Bl.range (by assumption) | exact Bl.all (by assumption) | exact Bl.any (by assumption) | exact Bl.zip (by assumption) | exact Bl.enumerate (by assumption) | exact Bl.min (by assumption)))
local macro_rules | `(tactic| walk_at "wb") => `(tactic| first
  | ((with_reducible show WB _ [] _ _); refine' wb_nil ?_; try dsimp only [List.set_cons_zero, List.set_cons_succ])
  | (refine' wb_cons ?_; walk_at "ws"))
local macro_rules | `(tactic| walk_at "ws") => `(tactic| first
  | ((with_reducible show WS _ (Stmt.If _ _ _ _) _ _); refine' ws_if ?_)
  | ((with_reducible show WS _ (Stmt.Return (some (Expr.Name _ _)) _) _ _); refine' ws_retO _ ?a ?b ?c ?h; (case a => walk_at "ix"); (case b => walk_at "vis"); (case c => exact rfl); (all_goals (try dsimp only)))
  | ((with_reducible show WS _ (Stmt.Return (some _) _) _ _); refine' ws_ret ?_)
  | ((with_reducible show WS _ (Stmt.Return none _) _ _); refine' ws_retN ?_)
  | ((with_reducible show WS _ (Stmt.Assign [Expr.Name _ _] (Expr.ListComp _ _ _ _) _) _ _); fail "a comprehension")
  | ((with_reducible show WS _ (Stmt.Assign [Expr.Name _ _] (Expr.Dict [] [] _) _) _ _); fail "a dict")
  | ((with_reducible show WS _ (Stmt.Assign [Expr.Name _ _] _ _) _ _); refine' ws_set _ ?a ?b ?h; (case a => walk_at "ix"); (case b => walk_at "loc"))
  | ((with_reducible show WS _ (Stmt.Assign [Expr.Attribute _ _ _] _ _) _ _); refine' ws_fld _ ?a ?b ?c ?d ?e ?f ?g ?h; (case a => walk_at "ix"); (case b => walk_at "vis"); (case c => exact rfl); (case d => walk_at "cl"); (case e => walk_at "na"); (case f => exact rfl); (case g => decide))
  | ((with_reducible show WS _ (Stmt.AugAssign (Expr.Name _ _) Operator.Add _ _) _ _); refine' ws_augAdd _ ?a ?b ?c ?h; (case a => walk_at "ix"); (case b => walk_at "loc"); (case c => exact rfl))
  | ((with_reducible show WS _ (Stmt.Expr (Expr.Call (Expr.Attribute (Expr.Name _ _) "append" _) _ _ _) _) _ _); refine' ws_app _ ?a ?b ?c ?h; (case a => walk_at "ix"); (case b => walk_at "vis"); (case c => exact rfl))
  | ((with_reducible show WS _ (Stmt.Expr (Expr.Call (Expr.Attribute (Expr.Name _ _) "extend" _) _ _ _) _) _ _); refine' ws_ext _ ?a ?b ?c ?h; (case a => walk_at "ix"); (case b => walk_at "vis"); (case c => exact rfl))
  | ((with_reducible show WS _ (Stmt.Expr (Expr.Constant (Const.str _) _ _) _) _ _); refine' ws_doc ?_)
  | ((with_reducible show WS _ (Stmt.Expr (Expr.Call (Expr.Name _ _) _ _ _) _) _ _); refine' ws_expr (Q := fun _ => True) ?_)
  | ((with_reducible show WS _ (Stmt.Assign [Expr.Subscript (Expr.Name _ _) _ _] _ _) _ _); first
    | (refine' ws_putT _ ?a ?b ?c ?h; (case a => walk_at "ix"); (case b => walk_at "vis"); (case c => exact rfl))
    | (refine' ws_putK _ ?a ?b ?c ?h; (case a => walk_at "ix"); (case b => walk_at "vis"); (case c => exact rfl))
    | (refine' ws_item _ ?a ?b ?c ?h; (case a => walk_at "ix"); (case b => walk_at "vis"); (case c => exact rfl)))
  | ((with_reducible show WS _ (Stmt.Raise _ _ _) _ _); refine' ws_raise ?m ?j ?g ?h (hn := ?n); (case m => walk_at "hyp"); (case n => decide); (case j => walk_at "j"); (case g => exact rfl))
  | ((with_reducible show WS _ (Stmt.Pass _) _ _); refine' ws_pass ?_)
  | ((with_reducible show WS _ (Stmt.Break _) _ _); refine' ws_break ?_)
  | ((with_reducible show WS _ (Stmt.Continue _) _ _); refine' ws_cont ?_))
local macro_rules | `(tactic| walk_at "lam") => `(tactic| first
  | (refine' we_caught 16 ?F rfl rfl (Nat.le_of_ble_eq_true rfl) rfl (by dsimp only; decide +kernel) ?h; (case F => walk_at "hyp"))
  | (refine' we_caught 15 ?F rfl rfl (Nat.le_of_ble_eq_true rfl) rfl (by dsimp only; decide +kernel) ?h; (case F => walk_at "hyp"))
  | (refine' we_caught 14 ?F rfl rfl (Nat.le_of_ble_eq_true rfl) rfl (by dsimp only; decide +kernel) ?h; (case F => walk_at "hyp"))
  | (refine' we_caught 13 ?F rfl rfl (Nat.le_of_ble_eq_true rfl) rfl (by dsimp only; decide +kernel) ?h; (case F => walk_at "hyp"))
  | (refine' we_caught 12 ?F rfl rfl (Nat.le_of_ble_eq_true rfl) rfl (by dsimp only; decide +kernel) ?h; (case F => walk_at "hyp"))
  | (refine' we_caught 11 ?F rfl rfl (Nat.le_of_ble_eq_true rfl) rfl (by dsimp only; decide +kernel) ?h; (case F => walk_at "hyp"))
  | (refine' we_caught 10 ?F rfl rfl (Nat.le_of_ble_eq_true rfl) rfl (by dsimp only; decide +kernel) ?h; (case F => walk_at "hyp"))
  | (refine' we_caught 9 ?F rfl rfl (Nat.le_of_ble_eq_true rfl) rfl (by dsimp only; decide +kernel) ?h; (case F => walk_at "hyp"))
  | (refine' we_caught 8 ?F rfl rfl (Nat.le_of_ble_eq_true rfl) rfl (by dsimp only; decide +kernel) ?h; (case F => walk_at "hyp"))
  | (refine' we_caught 7 ?F rfl rfl (Nat.le_of_ble_eq_true rfl) rfl (by dsimp only; decide +kernel) ?h; (case F => walk_at "hyp"))
  | (refine' we_caught 6 ?F rfl rfl (Nat.le_of_ble_eq_true rfl) rfl (by dsimp only; decide +kernel) ?h; (case F => walk_at "hyp"))
  | (refine' we_caught 5 ?F rfl rfl (Nat.le_of_ble_eq_true rfl) rfl (by dsimp only; decide +kernel) ?h; (case F => walk_at "hyp"))
  | (refine' we_caught 4 ?F rfl rfl (Nat.le_of_ble_eq_true rfl) rfl (by dsimp only; decide +kernel) ?h; (case F => walk_at "hyp"))
  | (refine' we_caught 3 ?F rfl rfl (Nat.le_of_ble_eq_true rfl) rfl (by dsimp only; decide +kernel) ?h; (case F => walk_at "hyp")))
local macro_rules | `(tactic| walk_at "we") => `(tactic| first
  | ((with_reducible show WE _ (Expr.Name _ _) _ _); first
    | (refine' we_var _ ?a ?b ?c ?d ?h; (case a => walk_at "ix"); (case b => walk_at "vis"); (case c => first | exact rfl | exact no_at rfl (by assumption)); (case d => first | exact rfl | assumption); (all_goals (try dsimp only)))
    | (refine' we_ty ?a ?b ?c ?h; (case c => walk_at "kty"); (case b => walk_at "no"); (case a => exact rfl); (all_goals (try dsimp only)))
    | (refine' we_cls ?a ?b ?h; (case b => first | exact (CFx.g (by walk_at "hyp")) | walk_at "hyp"); (case a => exact rfl); (all_goals (try dsimp only))))
  | ((with_reducible show WE _ (Expr.Constant _ _ _) _ _); first | refine' we_int ?_ | refine' we_str ?_ | refine' we_bl ?_ | refine' we_non ?_)
  | ((with_reducible show WE _ (Expr.Tuple _ _ _) _ _); refine' we_tup ?_)
  | ((with_reducible show WE _ (Expr.List _ _) _ _); refine' we_lst ?_)
  | ((with_reducible show WE _ (Expr.BinOp _ _ _ _) _ _); refine' we_bin ?_)
  | ((with_reducible show WE _ (Expr.UnaryOp UnaryOp.USub _ _) _ _); refine' we_neg ?_)
  | ((with_reducible show WE _ (Expr.UnaryOp UnaryOp.Not _ _) _ _); refine' we_not ?_)
  | ((with_reducible show WE _ (Expr.BoolOp _ [_] _) _ _); refine' we_one ?_)
  | ((with_reducible show WE _ (Expr.BoolOp BoolOp.And _ _) _ _); refine' we_and ?_)
  | ((with_reducible show WE _ (Expr.BoolOp BoolOp.Or _ _) _ _); refine' we_or ?_)
  | ((with_reducible show WE _ (Expr.Compare _ [_] _ _) _ _); refine' we_cmp ?_)
  | ((with_reducible show WE _ (Expr.Compare _ [_, _] _ _) _ _); refine' we_chain ?_)
  | ((with_reducible show WE _ (Expr.IfExp _ _ _ _) _ _); refine' we_if ?_)
  | ((with_reducible show WE _ (Expr.Subscript _ (Expr.Slice _ _ _ _) _) _ _); refine' we_slice ?_)
  | ((with_reducible show WE _ (Expr.Subscript (Expr.Name _ _) _ _) _ _); first
    | (refine' we_oix (d0 := .oK _ _ _) _ ?a ?b ?c rfl ?h; (case a => walk_at "ix"); (case b => walk_at "vis"); (case c => exact rfl))
    | (refine' we_oix (d0 := .oT _ _ _) _ ?a ?b ?c rfl ?h; (case a => walk_at "ix"); (case b => walk_at "vis"); (case c => exact rfl))
    | (refine' we_olx _ ?a ?b ?c ?h; (case a => walk_at "ix"); (case b => walk_at "vis"); (case c => exact rfl))
    | refine' we_ix ?_)
  | ((with_reducible show WE _ (Expr.Subscript _ _ _) _ _); refine' we_ix ?_)
  | ((with_reducible show WE _ (Expr.Attribute (Expr.Name _ _) _ _) _ _); refine' we_fldO _ ?a ?b ?c ?d ?e ?f ?h; (case a => walk_at "ix"); (case b => walk_at "vis"); (case c => exact rfl); (case d => walk_at "cl"); (case e => walk_at "na"); (case f => exact rfl); (all_goals (try dsimp only)))
  | ((with_reducible show WE _ (Expr.Attribute _ _ _) _ _); refine' we_fld ?_)
  | ((with_reducible show WE _ (Expr.Call (Expr.Attribute _ "get" _) _ _ _) _ _); refine' we_dget1 ?_)
  | ((with_reducible show WE _ (Expr.Call (Expr.Attribute _ "join" _) _ _ _) _ _); refine' we_join ?_)
  | ((with_reducible show WE _ (Expr.Call (Expr.Name "len" _) [Expr.Name _ _] _ _) _ _); first
    | (refine' we_olen _ ?g ?m boot_len ?a ?b ?c ?_; (case a => walk_at "ix"); (case b => walk_at "vis"); (case c => exact rfl); (case m => walk_at "no"); (case g => exact rfl); (all_goals (try dsimp only)))
    | (refine' we_lenK _ ?g ?m boot_len ?a ?b ?c ?_; (case a => walk_at "ix"); (case b => walk_at "vis"); (case c => exact rfl); (case m => walk_at "no"); (case g => exact rfl); (all_goals (try dsimp only))))
  | ((with_reducible show WE _ (Expr.Call (Expr.Name _ _) [Expr.Lambda _ _ _ _] _ _) _ _); walk_at "lam")
  | ((with_reducible show WE _ (Expr.Call (Expr.Name _ _) _ _ _) _ _); first
    | (refine' we_call ?F ?hj ?hg ?h; (case F => walk_at "hyp"); (case hj => walk_at "j"); (case hg => exact rfl))
    | (refine' we_callT ?F ?hl ?hj ?hg ?h; (case F => walk_at "hyp"); (case hl => exact rfl); (case hj => walk_at "j"); (case hg => exact rfl))
    | (refine' we_make ?F ?hj ?hg ?h; (case F => walk_at "hyp"); (case hj => walk_at "j"); (case hg => exact rfl))
    | (refine' we_of_wo (wo_callB ?a ?b ?c ?h); (case c => walk_at "kw"); (case b => walk_at "no"); (case a => exact rfl))
    | (refine' we_of_wo (wo_callTy ?a ?b ?c ?h); (case c => walk_at "kty"); (case b => walk_at "no"); (case a => exact rfl))))
local macro_rules | `(tactic| walk_at "wo") => `(tactic| first
  | ((with_reducible show WO _ (Expr.Tuple _ _ _) _ _); refine' wo_tup ?_)
  | ((with_reducible show WO _ (Expr.List _ _) _ _); refine' wo_lst ?_)
  | ((with_reducible show WO _ (Expr.BinOp _ _ _ _) _ _); refine' wo_bin ?_)
  | ((with_reducible show WO _ (Expr.IfExp _ _ _ _) _ _); refine' wo_if ?_)
  | ((with_reducible show WO _ (Expr.Subscript _ (Expr.Slice _ _ _ _) _) _ _); refine' wo_slice ?_)
  | ((with_reducible show WO _ (Expr.Call (Expr.Name _ _) _ _ _) _ _); first
    | (refine' wo_call ?F ?hj ?hg ?h; (case F => walk_at "hyp"); (case hj => walk_at "j"); (case hg => exact rfl))
    | (refine' wo_callT ?F ?hl ?hj ?hg ?h; (case F => walk_at "hyp"); (case hl => exact rfl); (case hj => walk_at "j"); (case hg => exact rfl))
    | (refine' wo_make ?F ?hj ?hg ?h; (case F => walk_at "hyp"); (case hj => walk_at "j"); (case hg => exact rfl))
    | (refine' wo_callB ?a ?b ?c ?h; (case c => walk_at "kw"); (case b => walk_at "no"); (case a => exact rfl))
    | (refine' wo_callTy ?a ?b ?c ?h; (case c => walk_at "kty"); (case b => walk_at "no"); (case a => exact rfl)))
  | ((with_reducible show WO _ (Expr.ListComp _ _ _ _) _ _); fail "a comprehension")
  | ((with_reducible show WO _ (Expr.Dict _ _ _) _ _); fail "a dict")
  | refine' wo_of_we ?_)
local macro_rules | `(tactic| walk_at "wt") => `(tactic| first
  | ((with_reducible show WT _ (Expr.Compare _ [_] [Expr.Name _ _] _) _ _); first
    | (refine' wt_oin (d0 := .oK _ _ _) _ ?a ?b ?c rfl ?h; (case a => walk_at "ix"); (case b => walk_at "vis"); (case c => exact rfl))
    | (refine' wt_oin (d0 := .oT _ _ _) _ ?a ?b ?c rfl ?h; (case a => walk_at "ix"); (case b => walk_at "vis"); (case c => exact rfl))
    | (refine' wt_oni (d0 := .oK _ _ _) _ ?a ?b ?c rfl ?h; (case a => walk_at "ix"); (case b => walk_at "vis"); (case c => exact rfl))
    | (refine' wt_oni (d0 := .oT _ _ _) _ ?a ?b ?c rfl ?h; (case a => walk_at "ix"); (case b => walk_at "vis"); (case c => exact rfl))
    | refine' wt_cmp ?_)
  | ((with_reducible show WT _ (Expr.Compare _ [_] _ _) _ _); refine' wt_cmp ?_)
  | ((with_reducible show WT _ (Expr.Compare _ [_, _] _ _) _ _); refine' wt_chain ?_)
  | ((with_reducible show WT _ (Expr.BoolOp _ _ _) _ _); refine' wt_pw ?_)
  | ((with_reducible show WT _ (Expr.UnaryOp UnaryOp.Not _ _) _ _); refine' wt_not ?_)
  | ((with_reducible show WT _ (Expr.Name _ _) _ _); refine' wt_truth ?_)
  | ((with_reducible show WT _ (Expr.Call _ _ _ _) _ _); refine' wt_truth ?_)
  | ((with_reducible show WT _ (Expr.Subscript _ _ _) _ _); refine' wt_truth ?_)
  | ((with_reducible show WT _ (Expr.Attribute _ _ _) _ _); refine' wt_truth ?_))
local macro_rules | `(tactic| walk_at "ww") => `(tactic| first
  | ((with_reducible show WW _ (Expr.BoolOp BoolOp.And [_] _) _ _); refine' ww_and1 ?_)
  | ((with_reducible show WW _ (Expr.BoolOp BoolOp.Or [_] _) _ _); refine' ww_or1 ?_)
  | ((with_reducible show WW _ (Expr.BoolOp BoolOp.And _ _) _ _); refine' ww_and ?_)
  | ((with_reducible show WW _ (Expr.BoolOp BoolOp.Or _ _) _ _); refine' ww_or ?_))
local macro_rules | `(tactic| walk_at "wa") => `(tactic| first
  | ((with_reducible show WA _ [] _ _); refine' wa_nil ?_; try dsimp only)
  | ((with_reducible show WA _ (Expr.Starred _ _ :: _) _ _); refine' wa_star ?_)
  | refine' wa_cons ?_)
local macro_rules | `(tactic| walk_at "wop") => `(tactic| first
  | ((with_reducible show WOp _ none _ _); unfold WOp; try dsimp only)
  | ((with_reducible show WOp _ (some _) _ _); unfold WOp))
local macro_rules | `(tactic| walk_at "wg") => `(tactic| first
  | ((with_reducible show WG _ _ (Expr.Name _ _) _ _ _); refine' wg_name _ ?a ?b ?c ?h; (case a => walk_at "ix"); (case b => walk_at "loc"); (case c => decide); (all_goals (try dsimp only [List.set_cons_zero, List.set_cons_succ, wipeD, List.map_cons, List.map_nil])))
  | ((with_reducible show WG _ _ (Expr.Tuple _ _ _) _ _ _); refine' wg_tup rfl ?_)
  | ((with_reducible show WGs _ _ [] _ _ _); refine' wgs_nil ?_; (try dsimp only [List.set_cons_zero, List.set_cons_succ, wipeD, List.map_cons, List.map_nil]))
  | ((with_reducible show WGs _ _ (_ :: _) _ _ _); refine' wgs_cons ?_))
local macro_rules | `(tactic| walk_at "vo") => `(tactic| first
  | ((with_reducible show VO _ (binaryOp Operator.Add) _ _ _); first | refine vo_add ?_ | refine vo_catT ?_ ?_ | refine vo_catL ?_ ?_ | refine vo_addS ?_ ?_)
  | ((with_reducible show VO _ (binaryOp Operator.Sub) _ _ _); refine vo_sub ?_)
  | ((with_reducible show VO _ (binaryOp Operator.Mult) _ _ _); refine vo_mul ?_ ?_)
  | ((with_reducible show VO _ (compareOp CmpOp.Lt) _ _ _); refine vo_lt ?_)
  | ((with_reducible show VO _ (compareOp CmpOp.LtE) _ _ _); refine vo_le ?_)
  | ((with_reducible show VO _ (compareOp CmpOp.Gt) _ _ _); refine vo_gt ?_)
  | ((with_reducible show VO _ (compareOp CmpOp.GtE) _ _ _); refine vo_ge ?_)
  | ((with_reducible show VO _ (compareOp CmpOp.Eq) _ _ _); first | refine vo_eqi ?_ | refine vo_eqS ?_)
  | ((with_reducible show VO _ (compareOp CmpOp.NotEq) _ _ _); first | refine vo_nei ?_ | refine vo_neS ?_)
  | ((with_reducible show VO _ (compareOp CmpOp.In) _ _ _); first | refine' vo_din (DkAt.fT rfl) ?_ | refine' vo_din (DkAt.dK rfl) ?_ | refine' vo_din (DkAt.fK rfl) ?_ | refine' vo_din (DkAt.dT rfl) ?_ | refine' vo_inS Sq.tup ?_ | refine' vo_inS Sq.lst ?_)
  | ((with_reducible show VO _ (compareOp CmpOp.NotIn) _ _ _); first | refine' vo_dni (DkAt.fT rfl) ?_ | refine' vo_dni (DkAt.dK rfl) ?_ | refine' vo_dni (DkAt.fK rfl) ?_ | refine' vo_dni (DkAt.dT rfl) ?_ | refine' vo_niS Sq.tup ?_ | refine' vo_niS Sq.lst ?_)
  | ((with_reducible show VO _ (compareOp CmpOp.Is) _ _ _); first | refine vo_isN ?_ | refine vo_isB ?_)
  | ((with_reducible show VO _ (compareOp CmpOp.IsNot) _ _ _); first | refine vo_notN ?_ | refine vo_nisB ?_))
local macro_rules | `(tactic| walk_at "vc") => `(tactic| first
  | ((with_reducible show VC _ (Value.builtin "len") _ _); first | refine vc_lenL ?_ | refine vc_lenT ?_ | refine vc_lenS ?_ ?_ | refine vc_lenA ?_ | refine vc_lenScr ?_ | refine vc_lenDK ?_ | (refine' vc_lenQ ?h ?_; (case h => assumption)))
  | ((with_reducible show VC _ (Value.builtin "isinstance") _ _); first
    | refine vc_isi (k := true) rfl (by decide +kernel) ?_ | refine vc_isi (k := false) rfl (by decide +kernel) ?_
    | refine vc_isiT ["list", "tuple"] (k := true) rfl (by decide +kernel) ?_ | refine vc_isiT ["list", "tuple"] (k := false) rfl (by decide +kernel) ?_
    | refine vc_isiI (CFx.cl (by walk_at "hyp")) (CFx.isC (by walk_at "hyp")) ?_)
  | ((with_reducible show VC _ (Value.type "tuple") _ _); first | refine' vc_tupL ?_ | refine' vc_tupT ?_ | (refine' vc_tupS ?h ?_; (case h => assumption)))
  | ((with_reducible show VC _ (Value.type "list") _ _); first | refine vc_lstL ?_ | refine vc_lstT ?_ | refine vc_lstScr ?_ | (refine' vc_lstQ ?h ?_; (case h => assumption)))
  | ((with_reducible show VC _ (Value.type "int") _ _); first | refine vc_int ?_ | refine vc_intB ?_)
  | ((with_reducible show VC _ (Value.type "str") _ _); first | refine vc_strS ?_)
  | ((with_reducible show VC _ (Value.builtin "all") _ _); refine' vc_all ?_)
  | ((with_reducible show VC _ (Value.builtin "any") _ _); refine' vc_any ?_)
  | ((with_reducible show VC _ (Value.builtin "sum") _ _); refine' vc_sum ?_)
  | ((with_reducible show VC _ (Value.builtin "min") _ _); refine' vc_min ?_)
  | ((with_reducible show VC _ (Value.builtin "max") _ _); refine' vc_max ?_))
local macro_rules | `(tactic| walk_at "w1") => `(tactic| first
  | ((with_reducible show WE _ _ _ _); walk_at "we")
  | ((with_reducible show WA _ _ _ _); walk_at "wa")
  | ((with_reducible show WO _ _ _ _); walk_at "wo")
  | ((with_reducible show WT _ _ _ _); walk_at "wt")
  | ((with_reducible show WW _ _ _ _); walk_at "ww")
  | ((with_reducible show WB _ _ _ _); walk_at "wb")
  | ((with_reducible show WS _ _ _ _); walk_at "ws")
  | ((with_reducible show WG _ _ _ _ _ _); walk_at "wg")
  | ((with_reducible show WGs _ _ _ _ _ _); walk_at "wg")
  | ((with_reducible show WOp _ _ _ _); walk_at "wop")
  | ((with_reducible show WTs _ _ _ _); unfold WTs; try dsimp only)
  | ((with_reducible show VO _ _ _ _ _); walk_at "vo")
  | ((with_reducible show VC _ _ _ _); walk_at "vc")
  | ((with_reducible show _ ≤ sizeLine); walk_at "sz")
  | ((with_reducible show VI _ _ _ _); first | (refine' vi_tup ?h ?_; (case h => exact rfl)) | (refine' vi_lst ?h ?_; (case h => exact rfl)) | (refine' vi_lsA ?h ?_; (case h => exact rfl)) | (refine' vi_dict ?h ?_; (case h => exact DkAt.dK rfl)) | (refine' vi_dict ?h ?_; (case h => exact DkAt.fT rfl)))
  | ((with_reducible show VS _ _ _ _ _); first | refine' vs_tup ?_ | refine' vs_lst ?_)
  | ((with_reducible show IsSeq _ _ ∧ _); first | refine' And.intro (Or.inl rfl) ?_ | refine' And.intro (Or.inr rfl) ?_ | (refine' And.intro ?p ?_; (case p => assumption)))
  | ((with_reducible show _ ∧ _); refine' And.intro ?p ?_; (case p => walk_at "side"))
  | ((with_reducible show ∃ _, DkAt _ _ _ ∧ _); first | refine' ⟨_, DkAt.fT rfl, ?_⟩ | refine' ⟨_, DkAt.dK rfl, ?_⟩ | refine' ⟨_, DkAt.fK rfl, ?_⟩ | refine' ⟨_, DkAt.dT rfl, ?_⟩)
  | ((with_reducible show ∃ _, OkAt _ _ _ ∧ _); first | refine' ⟨_, OkAt.oT rfl, ?_⟩ | refine' ⟨_, OkAt.oK rfl, ?_⟩)
  | ((with_reducible show ∃ _, Its _ _ ∧ _); first | refine' ⟨_, Its.lst, ?_⟩ | refine' ⟨_, Its.tup, ?_⟩ | refine' ⟨_, Its.lsA, ?_⟩ | refine' ⟨_, Its.scr, ?_⟩ | (refine' ⟨_, Its.seq ?h, ?_⟩; (case h => assumption)))
  | ((with_reducible show if _ = true then _ else _); first | (refine if_t rfl ?_; try dsimp only) | (refine if_f rfl ?_; try dsimp only))
  | (refine' ⟨_, _, _, _, rfl, ?cl, ?na, ?lk, ?_⟩; (case cl => walk_at "cl"); (case na => walk_at "na"); (case lk => first | exact rfl | assumption); (all_goals (try dsimp only)))
  | ((with_reducible show WI _ _ _ _ _); walk_at "wi")
  | ((with_reducible show ∃ _, (_ : D) = _ ∧ _); refine' ⟨_, rfl, ?_⟩)
  | ((with_reducible show ∃ _, (_ : Option Bool) = some _ ∧ _); refine' ⟨_, rfl, ?_⟩)
  | ((with_reducible show ∃ _, atI _ _ = some _ ∧ _); refine' ⟨_, rfl, ?_⟩)
  | ((with_reducible show ∃ (_ : D) (_ : D), (_ : D) = _ ∧ _); refine' ⟨_, _, rfl, ?_⟩)
  | ((with_reducible show ∃ _, (_ : List D) = _ ∧ _); refine' ⟨_, rfl, ?_⟩)
  | ((with_reducible show ∃ _ _, (_ : List D) = _ ∧ _); refine' ⟨_, _, rfl, ?_⟩)
  | (with_reducible exact Bool.not_true)
  | (with_reducible exact (rfl : false = false))
  | walk_at "own"
  | ((fail_if_success (with_reducible show ∃ _, _)); walk_at "sp"))
local macro_rules | `(tactic| walk_at "wi") => `(tactic| first
  | ((with_reducible show WI _ _ (Expr.Call (Expr.Name "range" _) [_] _ _) _ _); refine' wi_range1 ?a ?b ?_; (case b => walk_at "no"); (case a => exact rfl))
  | ((with_reducible show WI _ _ (Expr.Call (Expr.Name "range" _) [_, _] _ _) _ _); refine' wi_range2 ?a ?b ?_; (case b => walk_at "no"); (case a => exact rfl))
  | ((with_reducible show WI _ _ (Expr.Call (Expr.Name "zip" _) _ _ _) _ _); refine' wi_zipX ?a ?b ?_; (case b => walk_at "no"); (case a => exact rfl))
  | ((with_reducible show WI _ _ (Expr.Call (Expr.Name "enumerate" _) _ _ _) _ _); refine' wi_enumT ?a ?b ?_; (case b => walk_at "no"); (case a => exact rfl))
  | refine' wi_its ?_)
local macro_rules | `(tactic| walk_at "own") => `(tactic| fail "no own step")
local macro_rules | `(tactic| walk_at "sp") => `(tactic| first | refine' Exists.intro _ (And.intro rfl ?_) | refine' Exists.intro _ (Exists.intro _ (And.intro rfl ?_)) | refine' Exists.intro _ (Exists.intro _ (Exists.intro _ (And.intro rfl ?_))) | refine' Exists.intro _ (Exists.intro _ (Exists.intro _ (Exists.intro _ (And.intro rfl ?_)))) | refine' Exists.intro _ (Exists.intro _ (Exists.intro _ (Exists.intro _ (Exists.intro _ (And.intro rfl ?_))))) | refine' Exists.intro _ (Exists.intro _ (Exists.intro _ (Exists.intro _ (Exists.intro _ (Exists.intro _ (And.intro rfl ?_)))))) | refine' Exists.intro _ (Exists.intro _ (Exists.intro _ (Exists.intro _ (Exists.intro _ (Exists.intro _ (Exists.intro _ (And.intro rfl ?_))))))) | refine' Exists.intro _ (Exists.intro _ (Exists.intro _ (Exists.intro _ (Exists.intro _ (Exists.intro _ (Exists.intro _ (Exists.intro _ (And.intro rfl ?_)))))))) | refine' Exists.intro _ (Exists.intro _ (Exists.intro _ (Exists.intro _ (Exists.intro _ (Exists.intro _ (Exists.intro _ (Exists.intro _ (Exists.intro _ (And.intro rfl ?_))))))))))
local macro_rules | `(tactic| walk_at "w") => `(tactic| repeat' (w_strict (walk_at "w1")))
local macro_rules | `(tactic| walk_at "till if") => `(tactic| repeat' ((fail_if_success (with_reducible show WB _ (Stmt.If _ _ _ _ :: _) _ _)); w_strict (walk_at "w1")))
local macro_rules | `(tactic| walk_at "rn") => `(tactic| repeat' ((fail_if_success (with_reducible show spRuns _ _ _ _ _)); (fail_if_success (with_reducible show spAll _ _ _)); w_strict (walk_at "w1")))
structure All (P : Program) (w : World) (K : PySem.W.Frag) (mg : Str → Option Value) (base : Heap) (C BN : Addr) : Prop where
  B : Bl mg
  rp : mg "repr" = none
  pen : Def P w K mg base 1 "_law_pen" spPen
  draw : Def P w K mg base 1 "_law_draw" spDraw
  pick : Def P w K mg base 2 "_law_pick" spPickL
  rows : Def P w K mg base 5 "_law_drawn_rows" spDrawn
  made : Def P w K mg base 6 "_law_made" (spMade C)
  all : Def P w K mg base 3 "_law_all_runs" spAll
  runs : Def P w K mg base 6 "runs" (spRuns C BN)
  is2 : Def P w K mg base 3 "_law_is" (spIs 2)
  caught : Caught P w K mg base "_law_caught" (okC BN) toldC (.tup [.str "none"])
theorem isOk_runs {R : List (List Nat)} (hl : R.length ≤ 10000) (h : ∀ r ∈ R, r.length ≤ 1000) : isOk 2 (.tup (R.map tN)) := ⟨by rw [List.length_map]; omega, fun e he => by
  obtain ⟨r, hr, rfl⟩ := List.mem_map.mp he
  refine ⟨by rw [iN_len]; have := h r hr; omega, fun d hd => ?_⟩
  obtain ⟨x, _, rfl⟩ := List.mem_map.mp hd
  exact isOk_int⟩
structure OddN (y : D) : Prop where
  ow : y.own = false
  fz : y.frz = y
  k : ∃ k, itB y = some k
  n : numB y = false
  s : Sd 9000 7 (.tup [.str "number", .str "most", y])
theorem oddN_mk {y : D} (a : y.own = false) (b : y.frz = y) (c : ∃ k, itB y = some k) (d : numB y = false) (s : Sd 2000 4 y) : OddN y := ⟨a, b, c, d, (Sd.tup (n := 2000) (m := 4) fun e he => by
  simp only [List.mem_cons, List.not_mem_nil, or_false] at he
  rcases he with rfl | rfl | rfl
  · exact (Sd.str (m := 4) (x := ("number" : Str)) (by decide +kernel)).mono (by decide +kernel) (Nat.le_refl _)
  · exact (Sd.str (m := 4) (x := ("most" : Str)) (by decide +kernel)).mono (by decide +kernel) (Nat.le_refl _)
  · exact s).mono (by show (2000 + 2) * 3 + 2 ≤ 9000; decide) (by decide)⟩
theorem oddN {y : D} (h : y ∈ [D.int (-1), .non, .bl true, .str "2", .tup [.int 1]]) : OddN y := by
  simp only [List.mem_cons, List.not_mem_nil, or_false] at h
  rcases h with rfl | rfl | rfl | rfl | rfl
  · exact oddN_mk rfl rfl ⟨_, rfl⟩ rfl ((Sd.int (m := 4) (by decide)).mono (by decide) (Nat.le_refl _))
  · exact oddN_mk rfl rfl ⟨_, rfl⟩ rfl ((Sd.non (m := 4)).mono (by decide) (Nat.le_refl _))
  · exact oddN_mk rfl rfl ⟨_, rfl⟩ rfl ((Sd.bl (m := 4)).mono (by decide) (Nat.le_refl _))
  · exact oddN_mk rfl rfl ⟨_, rfl⟩ rfl ((Sd.str (m := 4) (x := ("2" : Str)) (by decide +kernel)).mono (by decide +kernel) (Nat.le_refl _))
  · exact oddN_mk rfl rfl ⟨_, rfl⟩ rfl ((Sd.tup (n := 13) (m := 3) fun d hd => by rw [List.mem_singleton.mp hd]; exact Sd.int (by decide)).mono (by decide) (Nat.le_refl _))
theorem spRk {C BN : Addr} {xs : List Str} {n : Nat} {A : List Ar} {Z : List Nat} {f : Nat → List Nat} {k : Nat} {Q : D → Prop} {E : XD → Prop} (hn1 : 1 ≤ n) (hx : xs.length ≤ 1000) (rg : ∀ a ∈ A, a.2.2 < n) (nd : (A.map fun a => (a.1, a.2.1)).Nodup) (hs : ∀ j, j ≤ k → (cat A xs.length j).length ≤ 10000) (hk : k < 2 ^ 62 ∨ 2 ^ 63 ≤ k) (q : Q (.tup ((cat A xs.length k).map tN))) : spRuns C BN [behD C xs n A Z f, .int (k : Int)] Q E :=
  ⟨xs, n, A, Z, f, .int (k : Int), true, rfl, rfl, fun h => (by rw [show numB (.int (k : Int)) = true from decide_eq_true (p := 0 ≤ (k : Int)) (by omega)] at h; cases h), fun m e => by
    have e : k = m := by injection e with e; omega
    subst e
    refine ⟨hn1, hx, rg, nd, fun j => ?_, hk, fun j hj hor => ?_⟩
    · by_cases h : j ≤ k
      · exact .inl (hs j h)
      · exact .inr (by omega)
    · rcases hor with rfl | h
      · exact q
      · have := cat_stop h (k - j)
        rw [show j + (k - j) = k by omega] at this
        rw [← this]; exact q⟩
theorem ln_far {l j : Nat} (h : l + 1 ≤ j) : cat (lnA (l + 1)) 1 j = (List.range (l + 1 + 1)).map fun i => List.replicate i 0 := by
  have := cat_stop (ln_end (l + 1)) (j - (l + 1))
  rw [show l + 1 + (j - (l + 1)) = j by omega] at this
  rw [this, ln_cat (l + 1) (l + 1) (Nat.le_refl _)]
theorem spLn {C BN : Addr} {l m : Nat} {Z : List Nat} {f : Nat → List Nat} {Q : D → Prop} {E : XD → Prop} (hl : l < 30) (hm1 : l + 1 ≤ m) (hm : m < 2 ^ 62 ∨ 2 ^ 63 ≤ m) (q : Q (.tup ((List.range (l + 1 + 1)).map fun i => tN (List.replicate i 0)))) : spRuns C BN [behD C ["d"] (l + 2) (lnA (l + 1)) Z f, .int (m : Int)] Q E :=
  ⟨["d"], l + 2, lnA (l + 1), Z, f, .int (m : Int), true, rfl, rfl, fun h => (by rw [show numB (.int (m : Int)) = true from decide_eq_true (p := 0 ≤ (m : Int)) (by omega)] at h; cases h), fun m2 e => by
    have e : m = m2 := by injection e with e; omega
    subst e
    refine ⟨by omega, by decide, fun a ha => by have := lnA_mem.mp ha; omega, lnA_nd _, fun j => .inl ?_, hm, fun j hj hor => ?_⟩
    · show (cat (lnA (l + 1)) 1 j).length ≤ 10000
      by_cases h : l + 1 ≤ j
      · rw [ln_far h, List.length_map, List.length_range]; omega
      · rw [ln_cat (l + 1) j (by omega), List.length_map, List.length_range]; omega
    · have hj1 : l + 1 ≤ j := by
        rcases hor with rfl | h
        · exact hm1
        · refine Classical.byContradiction fun hn => ?_
          have h : lev (lnA (l + 1)) 1 (j + 1) = [] := h
          rw [ln_lev (l + 1) (j + 1) (by omega)] at h; cases h
      show Q (.tup ((cat (lnA (l + 1)) 1 j).map tN))
      rw [ln_far hj1, List.map_map]; exact q⟩
def spLaw : DSp := fun ds Q _ => ∃ ns, ds = [.scr ns] ∧ Q (.bl true)
theorem g_spLaw (ns : List Int) : spLaw [.scr ns] (fun d => d = .bl true) fun _ => False := ⟨ns, rfl, rfl⟩
section
variable {P : Program} {w : World} {K : PySem.W.Frag} {mg : Str → Option Value} {base : Heap} {C BN : Addr}
abbrev s_law : Stmt := top 45
theorem sc_law : FnScope ["script", "pen", "lap", "rows", "made", "most", "due", "less", "odd", "length", "line", "run", "at"] ["script"] (defScope s_law) := ⟨rfl, rfl, rfl, by decide +kernel, rfl, by decide +kernel, by decide +kernel⟩
theorem ok_law {f c0 P0 : Addr} {fd : FuncData} {T : List (Addr × Str)} (hT : (P0, lq "law") ∈ T) (A0 : All P w K mg base C BN) (F : FunL K "law" "law" s_law f fd (.ref c0)) (TB : LamX.TabB base mg c0 P0) : FnT P w K mg base T 10 f fd ["script"] spLaw := by
  obtain ⟨B, rp, d_pen, d_draw, d_pick, d_rows, d_made, d_all, d_runs, d_is2, d_caught⟩ := A0
  refine def_okL T F TB hT sc_law (fun ds Q E ⟨_, e, _⟩ => by rw [e]; rfl) fun ds Q E ⟨sc, e, q⟩ => ?_
  subst e
  walk_at "w"
  refine wb_cons (ws_for [2] ?_)
  walk_at "w"
  refine ⟨fun pre Δ' => ∃ c2 c3 c4 c5 c6 c7 c8, Δ' = [some (.scr sc), some .pen, c2, c3, c4, c5, c6, c7, c8, none, none, none, none], ⟨_, _, _, _, _, _, _, rfl⟩, ?_, ?_⟩
  rotate_left
  · intro Δ' ⟨c2, c3, c4, c5, c6, c7, c8, hI⟩
    subst hI
    walk_at "w"
    intro l l0 l1
    obtain ⟨l, rfl⟩ := Int.eq_ofNat_of_zero_le l0
    walk_at "w"
    refine we_lc [("at", 12)] (by dsimp only [Cf.blk]; decide +kernel) ?_
    walk_at "rn"
    rw [show ((1 : Int) + (l : Int)).toNat = l + 1 by omega]
    refine ⟨fun pre acc => acc = ((List.range (l + 1)).take pre.length).map fun i : Nat => D.tup [.int (i : Int), .int 0, .int ((i : Int) + 1)], rfl, ?_, ?_⟩
    · intro pre y post acc hsp hle hI
      subst hI
      obtain ⟨rfl, hlt⟩ := rng_split hsp
      rw [Int.zero_add]
      walk_at "rn"
      rw [snoc_len, rng_take hlt, List.map_append]; rfl
    intro acc hle hI
    rw [rng_len, List.take_of_length_le (by rw [List.length_range]; exact Nat.le_refl _)] at hI
    subst hI
    walk_at "rn"
    refine we_lc [("at", 12)] (by dsimp only [Cf.blk]; decide +kernel) ?_
    walk_at "rn"
    rw [show ((1 : Int) + (l : Int) + 1).toNat = l + 1 + 1 by omega]
    refine ⟨fun pre acc => acc = ((List.range (l + 1 + 1)).take pre.length).map fun i : Nat => tN (List.replicate i 0), rfl, ?_, ?_⟩
    · intro pre y post acc hsp hle hI
      subst hI
      obtain ⟨rfl, hlt⟩ := rng_split hsp
      rw [Int.zero_add]
      walk_at "rn"
      refine vo_repN (by omega) (by omega) (by rw [Int.toNat_natCast]; show pre.length * 1 ≤ _; omega) ?_
      rw [snoc_len, rng_take hlt, List.map_append, Int.toNat_natCast, zerosN]
      rfl
    intro acc hle hI
    rw [rng_len, List.take_of_length_le (by rw [List.length_range]; exact Nat.le_refl _)] at hI
    subst hI
    walk_at "rn"
    have er : D.tup [.tup [.str "d"], (D.int (1 + (l : Int) + 1)).frz, (D.tup ((List.range (l + 1)).map fun i : Nat => D.tup [.int (i : Int), .int 0, .int ((i : Int) + 1)])).frz] = rowsD ["d"] (l + 2) (lnA (l + 1)) := ln_rows l
    rw [er]
    refine ⟨["d"], l + 2, lnA (l + 1), rfl, ln_rw (by omega), fun a Z f bf => ?_⟩
    walk_at "rn"
    refine vo_pow (by decide) ?_
    have hp : (10 : Int) ^ (30 : Int).toNat = ((1000000000000000000000000000000 : Nat) : Int) := by decide +kernel
    rw [hp]
    walk_at "rn"
    intro d hd
    obtain ⟨e, rfl, he⟩ : ∃ e : Nat, d = .int (e : Int) ∧ (l + 1 + e < 2 ^ 62 ∨ 2 ^ 63 ≤ l + 1 + e) := by
      simp only [List.mem_cons, List.not_mem_nil, or_false] at hd
      rcases hd with rfl | rfl | rfl | rfl
      · exact ⟨0, rfl, .inl (by omega)⟩
      · exact ⟨1, rfl, .inl (by omega)⟩
      · exact ⟨100, rfl, .inl (by omega)⟩
      · exact ⟨1000000000000000000000000000000, rfl, .inr (by omega)⟩
    clear hd
    have okE : isOk 2 (.tup ((List.range (l + 1 + 1)).map fun i => tN (List.replicate i 0))) := by
      have := isOk_runs (R := (List.range (l + 1 + 1)).map fun i => List.replicate i 0) (by rw [List.length_map, List.length_range]; omega) fun r hr => by
        obtain ⟨i, hi, rfl⟩ := List.mem_map.mp hr
        rw [List.length_replicate]; have := List.mem_range.mp hi; omega
      rw [List.map_map] at this; exact this
    walk_at "rn"
    rw [show (D.int (1 + (l : Int) + (e : Int))) = .int ((l + 1 + e : Nat) : Int) by congr 1; omega]
    refine spLn (by omega) (by omega) he ?_
    walk_at "rn"
    exact q
  intro pre x post Δ' hsp ⟨c2, c3, c4, c5, c6, c7, c8, hI⟩
  subst hI
  obtain ⟨rfl, hlt⟩ := rng_split hsp
  rw [Int.zero_add]
  walk_at "w1"
  refine wb_cons (ws_set 3 rfl (.inl rfl) (WO.mono (Q := fun d => ∃ xs n A, d = rowsD xs n A ∧ Rw xs n A ∧ n ≤ 8 ∧ xs.length ≤ 4) ?_ ?_))
  · walk_at "w"
    intro m m0 m1
    obtain ⟨m, rfl⟩ := Int.eq_ofNat_of_zero_le m0
    walk_at "w"
    intro b b0 b1
    obtain ⟨b, rfl⟩ := Int.eq_ofNat_of_zero_le b0
    walk_at "w"
    have h1 : (1 + m) * (1 + b) ≤ 8 * 4 := Nat.mul_le_mul (by omega) (by omega)
    refine ⟨Nat.lt_of_le_of_lt h1 (by decide), ?_⟩
    intro xs A hw hx
    exact ⟨xs, 1 + m, A, rfl, hw, by omega, by have hx : xs.length = 1 + b := hx; omega⟩
  rintro _ ⟨xs, n, A, rfl, hw, hn, hx⟩
  have hn1 := hw.n1
  have hlen := hw.len
  refine wb_cons (ws_unpO 4 5 rfl rfl (.inr rfl) (.inl rfl) ?_ (fun env h => by cases env; cases h; rfl))
  walk_at "w"
  intro a0 Z f bf
  walk_at "w"
  refine ws_freeze 4 rfl rfl ?_
  have rgt : ∀ a ∈ A, a.2.2 < n := fun a ha => (hw.rg a ha).2.2
  refine wb_cut (fun Δ' => ∃ k : Nat, Δ' = [some (.scr sc), some .pen, some (.int (pre.length : Int)), some (rowsD xs n A), some (behD C xs n A Z f), some (.int (k : Int)), c6, c7, c8, none, none, none, none] ∧ k ≤ 7 ∧ ∀ j, j ≤ k → (cat A xs.length j).length ≤ 300) ?_ ?_
  · refine ws_while (fun i Δ' => ∃ k : Nat, Δ' = [some (.scr sc), some .pen, some (.int (pre.length : Int)), some (rowsD xs n A), some (behD C xs n A Z f), some (.int (k : Int)), c6, c7, c8, none, none, none, none] ∧ k ≤ 7 ∧ i = 7 - k ∧ ∀ j, j ≤ k → (cat A xs.length j).length ≤ 300) 7 ⟨0, rfl, by omega, rfl, fun j hj => by rw [show j = 0 by omega]; show 1 ≤ 300; omega⟩ fun i Δ' ⟨k, hI, hk, hi, hc⟩ => ?_
    subst hI
    have hcl : ((cat A xs.length k).map tN).length ≤ 300 := by rw [List.length_map]; exact hc k (Nat.le_refl _)
    walk_at "rn"
    refine if_b (fun h => ?_) (fun h => ?_)
    · have h := of_decide_eq_true h
      walk_at "rn"
      refine ⟨xs, n, A, k, rfl, hn1, by omega, by omega, rgt, hw.nd, by omega, fun j hj => Nat.le_trans (hc j hj) (by decide), ?_⟩
      walk_at "rn"
      refine if_b (fun h2 => ?_) (fun h2 => ?_)
      · have h2 := of_decide_eq_true h2
        rw [List.length_map] at h2
        walk_at "rn"
        refine ⟨_, ?_, k + 1, rfl, by omega, rfl, fun j hj => ?_⟩
        · omega
        · by_cases e : j = k + 1
          · rw [e]; exact cat_next (by omega) (by omega)
          · exact hc j (by omega)
      · exact ⟨k, rfl, hk, hc⟩
    · exact ⟨k, rfl, hk, hc⟩
  intro Δ' ⟨k, hI, hk, hc⟩
  subst hI
  have hcl : ((cat A xs.length k).map tN).length ≤ 300 := by rw [List.length_map]; exact hc k (Nat.le_refl _)
  walk_at "rn"
  refine ⟨xs, n, A, k, rfl, hn1, by omega, by omega, rgt, hw.nd, by omega, fun j hj => Nat.le_trans (hc j hj) (by decide), ?_⟩
  walk_at "rn"
  have okD : ∀ j, j ≤ k → isOk 2 (.tup ((cat A xs.length j).map tN)) := fun j hj => isOk_runs (Nat.le_trans (hc j hj) (by decide)) fun r hr => by have := cat_mem j r hr; omega
  have ok1 := okD k (Nat.le_refl _)
  refine spRk hn1 (by omega) rgt hw.nd (fun j hj => Nat.le_trans (hc j hj) (by decide)) (.inl (by omega)) ?_
  walk_at "rn"
  intro ls l0 l1
  obtain ⟨ls, rfl⟩ := Int.eq_ofNat_of_zero_le l0
  have hls : ls ≤ k := by omega
  have ok2 := okD ls hls
  walk_at "rn"
  refine spRk hn1 (by omega) rgt hw.nd (fun j hj => Nat.le_trans (hc j (by omega)) (by decide)) (.inl (by omega)) ?_
  walk_at "rn"
  refine we_lc [("run", 11)] (by dsimp only [Cf.blk]; decide +kernel) ?_
  walk_at "rn"
  refine ⟨fun pre2 acc => acc = (((cat A xs.length k).take pre2.length).filter fun r => decide (r.length ≤ ls)).map tN, rfl, ?_, ?_⟩
  · intro pre2 y post2 acc hsp2 hle hI
    subst hI
    obtain ⟨r, hr, rfl⟩ := map_at hsp2
    dsimp only
    rw [snoc_len, take_at hr, List.filter_append, List.map_append]
    show WG _ _ _ (D.tup (iN r)) _ _
    walk_at "rn"
    rw [iN_len]
    refine if_b (fun h5 => ?_) (fun h5 => ?_)
    · have h5 := of_decide_eq_true h5
      walk_at "rn"
      rw [show [r].filter (fun r => decide (r.length ≤ ls)) = [r] by simp; omega]; rfl
    · have h5 := of_decide_eq_false h5
      rw [show [r].filter (fun r => decide (r.length ≤ ls)) = [] by simp; omega]
      exact (List.append_nil _).symm
  intro acc hle hI
  rw [List.length_map, List.take_length] at hI
  have hcut := cat_cut A xs.length ls (k - ls)
  rw [show ls + (k - ls) = k by omega] at hcut
  rw [hcut] at hI
  subst hI
  walk_at "rn"
  refine wb_cons (ws_for [8] ?_)
  walk_at "rn"
  refine ⟨fun pre2 Δ' => ∃ c8, Δ' = [some (.scr sc), some .pen, some (.int (pre.length : Int)), some (rowsD xs n A), some (behD C xs n A Z f), some (.int (k : Int)), some (.tup ((cat A xs.length k).map tN)), some (.int (ls : Int)), c8, none, none, none, none], ⟨_, rfl⟩, ?_, ?_⟩
  · intro pre2 y post2 Δ' hsp2 ⟨c8, hI⟩
    subst hI
    obtain ⟨yo, yf, ⟨k2, yk⟩, yn, ys⟩ := oddN (show y ∈ [D.int (-1), .non, .bl true, .str "2", .tup [.int 1]] from by
      have : y ∈ pre2 ++ y :: post2 := by simp
      rw [← hsp2] at this; exact this)
    walk_at "rn"
    refine ⟨xs, n, A, Z, f, y, k2, rfl, yk, fun _ => ?_, fun m e => by rw [e, show numB (.int (m : Int)) = true from decide_eq_true (p := 0 ≤ (m : Int)) (by omega)] at yn; cases yn⟩
    refine And.intro ⟨_, _, rfl⟩ ?_
    rw [told_BadNumber, show (D.tup [.str "number", .str "most", y]).frz = .tup [.str "number", .str "most", y] from rfl]
    generalize hT : D.tup [.str "number", .str "most", y] = tD at ys
    walk_at "rn"
    refine vc_repr ys rfl ?_
    walk_at "rn"
    rw [hT]
    refine vc_repr ys rfl ?_
    walk_at "rn"
    refine if_f (congrArg (!·) (decide_eq_true rfl)) ?_
    walk_at "rn"
    exact ⟨_, rfl⟩
  intro Δ' ⟨c8, hI⟩
  subst hI
  walk_at "rn"
  exact ⟨_, _, _, _, _, _, _, rfl⟩
end
end K15
end
section
set_option Elab.async false
set_option linter.all false
set_option maxRecDepth 100000
set_option maxHeartbeats 4000000
/-! LY: _law_caught; exceptions made. -/
namespace K15
open PySem PySem.Spec PyProof.Rows L2 DL
section
variable {P : Program} {w : World} {K : PySem.W.Frag} {mg : Str → Option Value} {base : Heap} {C PE : Addr}
theorem sc_xNoStand : FnScope ["self", "stand"] ["self", "stand"] (defScope (inClass (top 10) 0)) := ⟨rfl, rfl, rfl, by decide +kernel, rfl, by decide +kernel, by decide +kernel⟩
theorem ok_xNoStand {f : Addr} {fd : FuncData} (T : PeB K mg "PartsError" PE) (O : OexC K C) (n1 : PySem.W.findIn K (.ref C) "stand" = some none) (F : Fun K "__init__" "NoStand.__init__" (inClass (top 10) 0) f fd) : FnOk P w K mg base CX0 2 f fd ["self", "stand"] (spX C ["stand"]) := by
  refine F.ok sc_xNoStand (fun vs H Q E ⟨a, ws, e, hl, _⟩ => by rw [e, List.length_cons, hl]; rfl) (fun cdv A outer s H vs Q E hr h => ?_)
  obtain ⟨a, ws, rfl, hl, ha, k⟩ := h
  obtain ⟨y, rfl⟩ := xlen1 hl
  refine ⟨_, pss_cons (ps_expr (pe_peinit T rfl (pa_cons (pv 0) (pa_cons pe_str pa_nil)))) (pss_one (ps_ost (pv 0) (pv 1))), ?_⟩
  refine ⟨_, rfl, a, C, _, rfl, by decide, O, ha, ?_⟩
  refine ⟨_, rfl, _, rfl, a, C, rfl, O, n1, .inl ⟨ha, fun dx hd hda => ?_⟩⟩
  exact k dx hd hda
end
end K15
end
section
set_option Elab.async false
set_option linter.all false
set_option maxRecDepth 100000
set_option maxHeartbeats 4000000
namespace K15
open PySem PySem.Spec PyProof.Rows L2 DL
theorem all_mk {l : PySem.W.OpenLaw} {q : Program} {w : World} {K : PySem.W.Frag} {h : Heap} {mg : Str → Option Value} {fa KBehaviour c0 c1 c2 c3 c4 c5 c6 c7 c8 c9 c10 c11 PE f_is_whole f_is_name f_is_short_of_names f_law_draw f_law_pen f_law_pick f_law_name f_law_names f_law_is f_is_index f_law_shuffled f_need_names f_need_leads f_found_ways f_need_stand f_deeds_at f_law_made f_law_arrow f_law_behind f_law_free f_law_drawn_rows f_is_number f_runs f_law_all_runs f_law f_law_caught f_Behaviourinit f_xc7 f_xc1 c0_law : Addr} (X : K.In h) (G : h.Ns mainGlobals mg) (hfa : mg "law" = some (.ref fa)) (em : Empt q K mg h) (hrec : ([("law" : Str)].all fun nm => (recsOf q).any fun d => d.name == nm) = true)
    {od_is_whole an_is_whole od_is_name an_is_name od_is_short_of_names an_is_short_of_names od_law_draw an_law_draw od_law_pen an_law_pen od_law_pick an_law_pick od_law_name an_law_name od_law_names an_law_names od_law_is an_law_is od_is_index an_is_index od_law_shuffled an_law_shuffled od_need_names an_need_names od_need_leads an_need_leads od_found_ways an_found_ways od_need_stand an_need_stand od_deeds_at an_deeds_at od_law_made an_law_made od_law_arrow an_law_arrow od_law_behind an_law_behind od_law_free an_law_free od_law_drawn_rows an_law_drawn_rows od_is_number an_is_number od_runs an_runs od_law_all_runs an_law_all_runs od_law an_law od_law_caught an_law_caught od_Behaviourinit an_Behaviourinit od_xc7 an_xc7 od_xc1 an_xc1 : Option Addr} {sl_is_whole sl_is_name sl_is_short_of_names sl_law_draw sl_law_pen sl_law_pick sl_law_name sl_law_names sl_law_is sl_is_index sl_law_shuffled sl_need_names sl_need_leads sl_found_ways sl_need_stand sl_deeds_at sl_law_made sl_law_arrow sl_law_behind sl_law_free sl_law_drawn_rows sl_is_number sl_runs sl_law_all_runs sl_law sl_law_caught sl_Behaviourinit sl_xc7 sl_xc1 : Array (Option Value)} {oc_is_whole kV_is_whole dc_is_whole pm_is_whole cd_is_whole ct_is_whole oc_is_name kV_is_name dc_is_name pm_is_name cd_is_name ct_is_name oc_is_short_of_names kV_is_short_of_names dc_is_short_of_names pm_is_short_of_names cd_is_short_of_names ct_is_short_of_names oc_law_draw kV_law_draw dc_law_draw pm_law_draw cd_law_draw ct_law_draw oc_law_pen kV_law_pen dc_law_pen pm_law_pen cd_law_pen ct_law_pen oc_law_pick kV_law_pick dc_law_pick pm_law_pick cd_law_pick ct_law_pick oc_law_name kV_law_name dc_law_name pm_law_name cd_law_name ct_law_name oc_law_names kV_law_names dc_law_names pm_law_names cd_law_names ct_law_names oc_law_is kV_law_is dc_law_is pm_law_is cd_law_is ct_law_is oc_is_index kV_is_index dc_is_index pm_is_index cd_is_index ct_is_index oc_law_shuffled kV_law_shuffled dc_law_shuffled pm_law_shuffled cd_law_shuffled ct_law_shuffled oc_need_names kV_need_names dc_need_names pm_need_names cd_need_names ct_need_names oc_need_leads kV_need_leads dc_need_leads pm_need_leads cd_need_leads ct_need_leads oc_found_ways kV_found_ways dc_found_ways pm_found_ways cd_found_ways ct_found_ways oc_need_stand kV_need_stand dc_need_stand pm_need_stand cd_need_stand ct_need_stand oc_deeds_at kV_deeds_at dc_deeds_at pm_deeds_at cd_deeds_at ct_deeds_at oc_law_made kV_law_made dc_law_made pm_law_made cd_law_made ct_law_made oc_law_arrow kV_law_arrow dc_law_arrow pm_law_arrow cd_law_arrow ct_law_arrow oc_law_behind kV_law_behind dc_law_behind pm_law_behind cd_law_behind ct_law_behind oc_law_free kV_law_free dc_law_free pm_law_free cd_law_free ct_law_free oc_law_drawn_rows kV_law_drawn_rows dc_law_drawn_rows pm_law_drawn_rows cd_law_drawn_rows ct_law_drawn_rows oc_is_number kV_is_number dc_is_number pm_is_number cd_is_number ct_is_number oc_runs kV_runs dc_runs pm_runs cd_runs ct_runs oc_law_all_runs kV_law_all_runs dc_law_all_runs pm_law_all_runs cd_law_all_runs ct_law_all_runs oc_law kV_law dc_law pm_law  ct_law oc_law_caught kV_law_caught dc_law_caught pm_law_caught cd_law_caught ct_law_caught oc_Behaviourinit kV_Behaviourinit dc_Behaviourinit pm_Behaviourinit cd_Behaviourinit ct_Behaviourinit oc_xc7 kV_xc7 dc_xc7 pm_xc7 cd_xc7 ct_xc7 oc_xc1 kV_xc1 dc_xc1 pm_xc1 cd_xc1 ct_xc1 : Value} {t_LETTERS t_SIGNS : Tok}
    (g_KBehaviour : PySem.W.nsIn K mainGlobals "Behaviour" = some (some (.ref KBehaviour)))
    (g_c0 : PySem.W.nsIn K mainGlobals "BadName" = some (some (.ref c0)))
    (g_c1 : PySem.W.nsIn K mainGlobals "BadNumber" = some (some (.ref c1)))
    (g_c2 : PySem.W.nsIn K mainGlobals "BadRow" = some (some (.ref c2)))
    (g_c3 : PySem.W.nsIn K mainGlobals "BadBehaviour" = some (some (.ref c3)))
    (g_c4 : PySem.W.nsIn K mainGlobals "BadCounter" = some (some (.ref c4)))
    (g_c5 : PySem.W.nsIn K mainGlobals "BadFrame" = some (some (.ref c5)))
    (g_c6 : PySem.W.nsIn K mainGlobals "NoDeed" = some (some (.ref c6)))
    (g_c7 : PySem.W.nsIn K mainGlobals "NoStand" = some (some (.ref c7)))
    (g_c8 : PySem.W.nsIn K mainGlobals "NotDone" = some (some (.ref c8)))
    (g_c9 : PySem.W.nsIn K mainGlobals "TooMany" = some (some (.ref c9)))
    (g_c10 : PySem.W.nsIn K mainGlobals "Unlike" = some (some (.ref c10)))
    (g_c11 : PySem.W.nsIn K mainGlobals "BadText" = some (some (.ref c11)))
    (g_PE : PySem.W.nsIn K mainGlobals "PartsError" = some (some (.ref PE)))
    (pe_ga : PySem.W.specialIn K (.ref PE) "__getattribute__" = some (some (.builtin "type.__getattribute__")))
    (pe_rd : PySem.W.readsIn K PE (.type "type") = true)
    (pe_fi : PySem.W.findCls K (.ref PE) (.type "type") "__init__" = some (.val (.builtin "ValueError.__init__")))
    (a_is_whole : PySem.W.nsIn K mainGlobals "is_whole" = some (some (.ref f_is_whole)))
    (l_is_whole : K.lookup f_is_whole = some ⟨oc_is_whole, od_is_whole, .func (PySem.W.fnOf "is_whole" "is_whole" (defArgs s_is_whole) (defBody s_is_whole) (defScope s_is_whole) .none kV_is_whole dc_is_whole pm_is_whole an_is_whole cd_is_whole ct_is_whole), sl_is_whole⟩)
    (c_is_whole : PySem.W.codeIn K cd_is_whole "is_whole" = true)
    (k_is_whole : PySem.W.keepIn K (.ref f_is_whole) = true)
    (a_is_name : PySem.W.nsIn K mainGlobals "is_name" = some (some (.ref f_is_name)))
    (l_is_name : K.lookup f_is_name = some ⟨oc_is_name, od_is_name, .func (PySem.W.fnOf "is_name" "is_name" (defArgs s_is_name) (defBody s_is_name) (defScope s_is_name) .none kV_is_name dc_is_name pm_is_name an_is_name cd_is_name ct_is_name), sl_is_name⟩)
    (c_is_name : PySem.W.codeIn K cd_is_name "is_name" = true)
    (k_is_name : PySem.W.keepIn K (.ref f_is_name) = true)
    (a_is_short_of_names : PySem.W.nsIn K mainGlobals "is_short_of_names" = some (some (.ref f_is_short_of_names)))
    (l_is_short_of_names : K.lookup f_is_short_of_names = some ⟨oc_is_short_of_names, od_is_short_of_names, .func (PySem.W.fnOf "is_short_of_names" "is_short_of_names" (defArgs s_short) (defBody s_short) (defScope s_short) .none kV_is_short_of_names dc_is_short_of_names pm_is_short_of_names an_is_short_of_names cd_is_short_of_names ct_is_short_of_names), sl_is_short_of_names⟩)
    (c_is_short_of_names : PySem.W.codeIn K cd_is_short_of_names "is_short_of_names" = true)
    (k_is_short_of_names : PySem.W.keepIn K (.ref f_is_short_of_names) = true)
    (a_law_draw : PySem.W.nsIn K mainGlobals "_law_draw" = some (some (.ref f_law_draw)))
    (l_law_draw : K.lookup f_law_draw = some ⟨oc_law_draw, od_law_draw, .func (PySem.W.fnOf "_law_draw" "_law_draw" (defArgs s_draw) (defBody s_draw) (defScope s_draw) .none kV_law_draw dc_law_draw pm_law_draw an_law_draw cd_law_draw ct_law_draw), sl_law_draw⟩)
    (c_law_draw : PySem.W.codeIn K cd_law_draw "_law_draw" = true)
    (k_law_draw : PySem.W.keepIn K (.ref f_law_draw) = true)
    (a_law_pen : PySem.W.nsIn K mainGlobals "_law_pen" = some (some (.ref f_law_pen)))
    (l_law_pen : K.lookup f_law_pen = some ⟨oc_law_pen, od_law_pen, .func (PySem.W.fnOf "_law_pen" "_law_pen" (defArgs s_pen) (defBody s_pen) (defScope s_pen) .none kV_law_pen dc_law_pen pm_law_pen an_law_pen cd_law_pen ct_law_pen), sl_law_pen⟩)
    (c_law_pen : PySem.W.codeIn K cd_law_pen "_law_pen" = true)
    (k_law_pen : PySem.W.keepIn K (.ref f_law_pen) = true)
    (a_law_pick : PySem.W.nsIn K mainGlobals "_law_pick" = some (some (.ref f_law_pick)))
    (l_law_pick : K.lookup f_law_pick = some ⟨oc_law_pick, od_law_pick, .func (PySem.W.fnOf "_law_pick" "_law_pick" (defArgs s_pick) (defBody s_pick) (defScope s_pick) .none kV_law_pick dc_law_pick pm_law_pick an_law_pick cd_law_pick ct_law_pick), sl_law_pick⟩)
    (c_law_pick : PySem.W.codeIn K cd_law_pick "_law_pick" = true)
    (k_law_pick : PySem.W.keepIn K (.ref f_law_pick) = true)
    (a_law_name : PySem.W.nsIn K mainGlobals "_law_name" = some (some (.ref f_law_name)))
    (l_law_name : K.lookup f_law_name = some ⟨oc_law_name, od_law_name, .func (PySem.W.fnOf "_law_name" "_law_name" (defArgs s_name) (defBody s_name) (defScope s_name) .none kV_law_name dc_law_name pm_law_name an_law_name cd_law_name ct_law_name), sl_law_name⟩)
    (c_law_name : PySem.W.codeIn K cd_law_name "_law_name" = true)
    (k_law_name : PySem.W.keepIn K (.ref f_law_name) = true)
    (a_law_names : PySem.W.nsIn K mainGlobals "_law_names" = some (some (.ref f_law_names)))
    (l_law_names : K.lookup f_law_names = some ⟨oc_law_names, od_law_names, .func (PySem.W.fnOf "_law_names" "_law_names" (defArgs s_names) (defBody s_names) (defScope s_names) .none kV_law_names dc_law_names pm_law_names an_law_names cd_law_names ct_law_names), sl_law_names⟩)
    (c_law_names : PySem.W.codeIn K cd_law_names "_law_names" = true)
    (k_law_names : PySem.W.keepIn K (.ref f_law_names) = true)
    (a_law_is : PySem.W.nsIn K mainGlobals "_law_is" = some (some (.ref f_law_is)))
    (l_law_is : K.lookup f_law_is = some ⟨oc_law_is, od_law_is, .func (PySem.W.fnOf "_law_is" "_law_is" (defArgs s_is) (defBody s_is) (defScope s_is) .none kV_law_is dc_law_is pm_law_is an_law_is cd_law_is ct_law_is), sl_law_is⟩)
    (c_law_is : PySem.W.codeIn K cd_law_is "_law_is" = true)
    (k_law_is : PySem.W.keepIn K (.ref f_law_is) = true)
    (a_is_index : PySem.W.nsIn K mainGlobals "is_index" = some (some (.ref f_is_index)))
    (l_is_index : K.lookup f_is_index = some ⟨oc_is_index, od_is_index, .func (PySem.W.fnOf "is_index" "is_index" (defArgs s_index) (defBody s_index) (defScope s_index) .none kV_is_index dc_is_index pm_is_index an_is_index cd_is_index ct_is_index), sl_is_index⟩)
    (c_is_index : PySem.W.codeIn K cd_is_index "is_index" = true)
    (k_is_index : PySem.W.keepIn K (.ref f_is_index) = true)
    (a_law_shuffled : PySem.W.nsIn K mainGlobals "_law_shuffled" = some (some (.ref f_law_shuffled)))
    (l_law_shuffled : K.lookup f_law_shuffled = some ⟨oc_law_shuffled, od_law_shuffled, .func (PySem.W.fnOf "_law_shuffled" "_law_shuffled" (defArgs s_shuf) (defBody s_shuf) (defScope s_shuf) .none kV_law_shuffled dc_law_shuffled pm_law_shuffled an_law_shuffled cd_law_shuffled ct_law_shuffled), sl_law_shuffled⟩)
    (c_law_shuffled : PySem.W.codeIn K cd_law_shuffled "_law_shuffled" = true)
    (k_law_shuffled : PySem.W.keepIn K (.ref f_law_shuffled) = true)
    (a_need_names : PySem.W.nsIn K mainGlobals "need_names" = some (some (.ref f_need_names)))
    (l_need_names : K.lookup f_need_names = some ⟨oc_need_names, od_need_names, .func (PySem.W.fnOf "need_names" "need_names" (defArgs s_needNames) (defBody s_needNames) (defScope s_needNames) .none kV_need_names dc_need_names pm_need_names an_need_names cd_need_names ct_need_names), sl_need_names⟩)
    (c_need_names : PySem.W.codeIn K cd_need_names "need_names" = true)
    (k_need_names : PySem.W.keepIn K (.ref f_need_names) = true)
    (a_need_leads : PySem.W.nsIn K mainGlobals "need_leads" = some (some (.ref f_need_leads)))
    (l_need_leads : K.lookup f_need_leads = some ⟨oc_need_leads, od_need_leads, .func (PySem.W.fnOf "need_leads" "need_leads" (defArgs s_needLeads) (defBody s_needLeads) (defScope s_needLeads) .none kV_need_leads dc_need_leads pm_need_leads an_need_leads cd_need_leads ct_need_leads), sl_need_leads⟩)
    (c_need_leads : PySem.W.codeIn K cd_need_leads "need_leads" = true)
    (k_need_leads : PySem.W.keepIn K (.ref f_need_leads) = true)
    (a_found_ways : PySem.W.nsIn K mainGlobals "found_ways" = some (some (.ref f_found_ways)))
    (l_found_ways : K.lookup f_found_ways = some ⟨oc_found_ways, od_found_ways, .func (PySem.W.fnOf "found_ways" "found_ways" (defArgs s_foundWays) (defBody s_foundWays) (defScope s_foundWays) .none kV_found_ways dc_found_ways pm_found_ways an_found_ways cd_found_ways ct_found_ways), sl_found_ways⟩)
    (c_found_ways : PySem.W.codeIn K cd_found_ways "found_ways" = true)
    (k_found_ways : PySem.W.keepIn K (.ref f_found_ways) = true)
    (a_need_stand : PySem.W.nsIn K mainGlobals "need_stand" = some (some (.ref f_need_stand)))
    (l_need_stand : K.lookup f_need_stand = some ⟨oc_need_stand, od_need_stand, .func (PySem.W.fnOf "need_stand" "need_stand" (defArgs s_needStand) (defBody s_needStand) (defScope s_needStand) .none kV_need_stand dc_need_stand pm_need_stand an_need_stand cd_need_stand ct_need_stand), sl_need_stand⟩)
    (c_need_stand : PySem.W.codeIn K cd_need_stand "need_stand" = true)
    (k_need_stand : PySem.W.keepIn K (.ref f_need_stand) = true)
    (a_deeds_at : PySem.W.nsIn K mainGlobals "deeds_at" = some (some (.ref f_deeds_at)))
    (l_deeds_at : K.lookup f_deeds_at = some ⟨oc_deeds_at, od_deeds_at, .func (PySem.W.fnOf "deeds_at" "deeds_at" (defArgs s_deedsAt) (defBody s_deedsAt) (defScope s_deedsAt) .none kV_deeds_at dc_deeds_at pm_deeds_at an_deeds_at cd_deeds_at ct_deeds_at), sl_deeds_at⟩)
    (c_deeds_at : PySem.W.codeIn K cd_deeds_at "deeds_at" = true)
    (k_deeds_at : PySem.W.keepIn K (.ref f_deeds_at) = true)
    (a_law_made : PySem.W.nsIn K mainGlobals "_law_made" = some (some (.ref f_law_made)))
    (l_law_made : K.lookup f_law_made = some ⟨oc_law_made, od_law_made, .func (PySem.W.fnOf "_law_made" "_law_made" (defArgs s_made) (defBody s_made) (defScope s_made) .none kV_law_made dc_law_made pm_law_made an_law_made cd_law_made ct_law_made), sl_law_made⟩)
    (c_law_made : PySem.W.codeIn K cd_law_made "_law_made" = true)
    (k_law_made : PySem.W.keepIn K (.ref f_law_made) = true)
    (a_law_arrow : PySem.W.nsIn K mainGlobals "_law_arrow" = some (some (.ref f_law_arrow)))
    (l_law_arrow : K.lookup f_law_arrow = some ⟨oc_law_arrow, od_law_arrow, .func (PySem.W.fnOf "_law_arrow" "_law_arrow" (defArgs s_larrow) (defBody s_larrow) (defScope s_larrow) .none kV_law_arrow dc_law_arrow pm_law_arrow an_law_arrow cd_law_arrow ct_law_arrow), sl_law_arrow⟩)
    (c_law_arrow : PySem.W.codeIn K cd_law_arrow "_law_arrow" = true)
    (k_law_arrow : PySem.W.keepIn K (.ref f_law_arrow) = true)
    (a_law_behind : PySem.W.nsIn K mainGlobals "_law_behind" = some (some (.ref f_law_behind)))
    (l_law_behind : K.lookup f_law_behind = some ⟨oc_law_behind, od_law_behind, .func (PySem.W.fnOf "_law_behind" "_law_behind" (defArgs s_lbehind) (defBody s_lbehind) (defScope s_lbehind) .none kV_law_behind dc_law_behind pm_law_behind an_law_behind cd_law_behind ct_law_behind), sl_law_behind⟩)
    (c_law_behind : PySem.W.codeIn K cd_law_behind "_law_behind" = true)
    (k_law_behind : PySem.W.keepIn K (.ref f_law_behind) = true)
    (a_law_free : PySem.W.nsIn K mainGlobals "_law_free" = some (some (.ref f_law_free)))
    (l_law_free : K.lookup f_law_free = some ⟨oc_law_free, od_law_free, .func (PySem.W.fnOf "_law_free" "_law_free" (defArgs s_free) (defBody s_free) (defScope s_free) .none kV_law_free dc_law_free pm_law_free an_law_free cd_law_free ct_law_free), sl_law_free⟩)
    (c_law_free : PySem.W.codeIn K cd_law_free "_law_free" = true)
    (k_law_free : PySem.W.keepIn K (.ref f_law_free) = true)
    (a_law_drawn_rows : PySem.W.nsIn K mainGlobals "_law_drawn_rows" = some (some (.ref f_law_drawn_rows)))
    (l_law_drawn_rows : K.lookup f_law_drawn_rows = some ⟨oc_law_drawn_rows, od_law_drawn_rows, .func (PySem.W.fnOf "_law_drawn_rows" "_law_drawn_rows" (defArgs s_drawn) (defBody s_drawn) (defScope s_drawn) .none kV_law_drawn_rows dc_law_drawn_rows pm_law_drawn_rows an_law_drawn_rows cd_law_drawn_rows ct_law_drawn_rows), sl_law_drawn_rows⟩)
    (c_law_drawn_rows : PySem.W.codeIn K cd_law_drawn_rows "_law_drawn_rows" = true)
    (k_law_drawn_rows : PySem.W.keepIn K (.ref f_law_drawn_rows) = true)
    (a_is_number : PySem.W.nsIn K mainGlobals "is_number" = some (some (.ref f_is_number)))
    (l_is_number : K.lookup f_is_number = some ⟨oc_is_number, od_is_number, .func (PySem.W.fnOf "is_number" "is_number" (defArgs s_num) (defBody s_num) (defScope s_num) .none kV_is_number dc_is_number pm_is_number an_is_number cd_is_number ct_is_number), sl_is_number⟩)
    (c_is_number : PySem.W.codeIn K cd_is_number "is_number" = true)
    (k_is_number : PySem.W.keepIn K (.ref f_is_number) = true)
    (a_runs : PySem.W.nsIn K mainGlobals "runs" = some (some (.ref f_runs)))
    (l_runs : K.lookup f_runs = some ⟨oc_runs, od_runs, .func (PySem.W.fnOf "runs" "runs" (defArgs s_runs) (defBody s_runs) (defScope s_runs) .none kV_runs dc_runs pm_runs an_runs cd_runs ct_runs), sl_runs⟩)
    (c_runs : PySem.W.codeIn K cd_runs "runs" = true)
    (k_runs : PySem.W.keepIn K (.ref f_runs) = true)
    (a_law_all_runs : PySem.W.nsIn K mainGlobals "_law_all_runs" = some (some (.ref f_law_all_runs)))
    (l_law_all_runs : K.lookup f_law_all_runs = some ⟨oc_law_all_runs, od_law_all_runs, .func (PySem.W.fnOf "_law_all_runs" "_law_all_runs" (defArgs s_all) (defBody s_all) (defScope s_all) .none kV_law_all_runs dc_law_all_runs pm_law_all_runs an_law_all_runs cd_law_all_runs ct_law_all_runs), sl_law_all_runs⟩)
    (c_law_all_runs : PySem.W.codeIn K cd_law_all_runs "_law_all_runs" = true)
    (k_law_all_runs : PySem.W.keepIn K (.ref f_law_all_runs) = true)
    (a_law : PySem.W.nsIn K mainGlobals "law" = some (some (.ref f_law)))
    (l_law : K.lookup f_law = some ⟨oc_law, od_law, .func (PySem.W.fnOf "law" "law" (defArgs s_law) (defBody s_law) (defScope s_law) .none kV_law dc_law pm_law an_law (.ref c0_law) ct_law), sl_law⟩)
    (c_law : PySem.W.codeIn K (.ref c0_law) "law" = true)
    (k_law : PySem.W.keepIn K (.ref f_law) = true)
    (t_law : lamB K c0_law (tabA K c0_law) = true)
    (a_law_caught : PySem.W.nsIn K mainGlobals "_law_caught" = some (some (.ref f_law_caught)))
    (l_law_caught : K.lookup f_law_caught = some ⟨oc_law_caught, od_law_caught, .func (PySem.W.fnOf "_law_caught" "_law_caught" (defArgs s_caught) (defBody s_caught) (defScope s_caught) .none kV_law_caught dc_law_caught pm_law_caught an_law_caught cd_law_caught ct_law_caught), sl_law_caught⟩)
    (c_law_caught : PySem.W.codeIn K cd_law_caught "_law_caught" = true)
    (k_law_caught : PySem.W.keepIn K (.ref f_law_caught) = true)
    (a_Behaviourinit : PySem.W.findIn K (.ref KBehaviour) "__init__" = some (some (.ref f_Behaviourinit)))
    (i_Behaviourinit : PySem.W.isFn K (.ref f_Behaviourinit) = true)
    (l_Behaviourinit : K.lookup f_Behaviourinit = some ⟨oc_Behaviourinit, od_Behaviourinit, .func (PySem.W.fnOf "__init__" "Behaviour.__init__" (defArgs s_binit) (defBody s_binit) (defScope s_binit) .none kV_Behaviourinit dc_Behaviourinit pm_Behaviourinit an_Behaviourinit cd_Behaviourinit ct_Behaviourinit), sl_Behaviourinit⟩)
    (c_Behaviourinit : PySem.W.codeIn K cd_Behaviourinit "Behaviour.__init__" = true)
    (k_Behaviourinit : PySem.W.keepIn K (.ref f_Behaviourinit) = true)
    (a_xc7 : PySem.W.findIn K (.ref c7) "__init__" = some (some (.ref f_xc7)))
    (i_xc7 : PySem.W.typeIn K (.ref f_xc7) = some (.type "function"))
    (l_xc7 : K.lookup f_xc7 = some ⟨oc_xc7, od_xc7, .func (PySem.W.fnOf "__init__" "NoStand.__init__" (defArgs (inClass (top 10) 0)) (defBody (inClass (top 10) 0)) (defScope (inClass (top 10) 0)) .none kV_xc7 dc_xc7 pm_xc7 an_xc7 cd_xc7 ct_xc7), sl_xc7⟩)
    (c_xc7 : PySem.W.codeIn K cd_xc7 "NoStand.__init__" = true)
    (k_xc7 : PySem.W.keepIn K (.ref f_xc7) = true)
    (o_c7 : oexC K c7 = true)
    (x_c7 : xokB K PE c7 ["stand"] = true)
    (s_c7 : aloneB K c7 [c0, c1, c2, c3, c4, c5, c6, c7, c8, c9, c10, c11] = true)
    (a_xc1 : PySem.W.findIn K (.ref c1) "__init__" = some (some (.ref f_xc1)))
    (i_xc1 : PySem.W.typeIn K (.ref f_xc1) = some (.type "function"))
    (l_xc1 : K.lookup f_xc1 = some ⟨oc_xc1, od_xc1, .func (PySem.W.fnOf "__init__" "BadNumber.__init__" (defArgs (inClass (top 3) 0)) (defBody (inClass (top 3) 0)) (defScope (inClass (top 3) 0)) .none kV_xc1 dc_xc1 pm_xc1 an_xc1 cd_xc1 ct_xc1), sl_xc1⟩)
    (c_xc1 : PySem.W.codeIn K cd_xc1 "BadNumber.__init__" = true)
    (k_xc1 : PySem.W.keepIn K (.ref f_xc1) = true)
    (o_c1 : oexC K c1 = true)
    (x_c1 : xokB K PE c1 ["what", "number"] = true)
    (s_c1 : aloneB K c1 [c0, c1, c2, c3, c4, c5, c6, c7, c8, c9, c10, c11] = true)
    (s_nd : decide ([c0, c1, c2, c3, c4, c5, c6, c7, c8, c9, c10, c11].Nodup) = true)
    (pg_KBehaviour : PySem.W.plainGet K KBehaviour Str.empty = true)
    (hd_KBehaviour : PySem.W.hasDictIn K KBehaviour = true)
    (po_KBehaviour : PySem.W.plainOver K KBehaviour = true)
    (sa_KBehaviour : PySem.W.findIn K (.ref KBehaviour) "__setattr__" = some (some (.builtin "object.__setattr__")))
    (mk_KBehaviour : PySem.W.makesIn K KBehaviour = true)
    (kc_KBehaviour : PySem.W.keepIn K (.ref KBehaviour) = true)
    (ha_KBehaviour : PySem.W.findIn K (.ref KBehaviour) "__class__" = some (some (.builtin "object.__class__")))
    (hm_KBehaviour : PySem.W.mroIn K KBehaviour (.type "object") = some true)
    (n_KBehaviour_deeds : PySem.W.findIn K (.ref KBehaviour) "deeds" = some none)
    (n_KBehaviour_many : PySem.W.findIn K (.ref KBehaviour) "many" = some none)
    (n_KBehaviour_leads : PySem.W.findIn K (.ref KBehaviour) "leads" = some none)
    (n_KBehaviour_arrows : PySem.W.findIn K (.ref KBehaviour) "arrows" = some none)
    (n_KBehaviour_ways : PySem.W.findIn K (.ref KBehaviour) "ways" = some none)
    (n_KBehaviour_kept : PySem.W.findIn K (.ref KBehaviour) "kept" = some none)
    (hn : PySem.W.specialIn K (.builtin "object.__class__") "__get__" = some (some (.builtin "getset_descriptor.__get__")))
    (htk : PySem.W.takesIn K (.builtin "object.__class__") = some true)
    (b_isinstance : PySem.W.nsIn K mainGlobals "isinstance" = some none)
    (b_len : PySem.W.nsIn K mainGlobals "len" = some none)
    (b_int : PySem.W.nsIn K mainGlobals "int" = some none)
    (b_bool : PySem.W.nsIn K mainGlobals "bool" = some none)
    (b_str : PySem.W.nsIn K mainGlobals "str" = some none)
    (b_list : PySem.W.nsIn K mainGlobals "list" = some none)
    (b_tuple : PySem.W.nsIn K mainGlobals "tuple" = some none)
    (b_range : PySem.W.nsIn K mainGlobals "range" = some none)
    (b_all : PySem.W.nsIn K mainGlobals "all" = some none)
    (b_any : PySem.W.nsIn K mainGlobals "any" = some none)
    (b_zip : PySem.W.nsIn K mainGlobals "zip" = some none)
    (b_enumerate : PySem.W.nsIn K mainGlobals "enumerate" = some none)
    (b_min : PySem.W.nsIn K mainGlobals "min" = some none)
    (b_sorted : PySem.W.nsIn K mainGlobals "sorted" = some none)
    (b_repr : PySem.W.nsIn K mainGlobals "repr" = some none)
    (s_LETTERS : PySem.W.nsIn K mainGlobals "LETTERS" = some (some (.str lettersS t_LETTERS)))
    (s_SIGNS : PySem.W.nsIn K mainGlobals "SIGNS" = some (some (.str signsS t_SIGNS)))
    : TopT l w K 10 63 "script" mg fa h := by
  have e := hfa.symm.trans (PySem.W.mg_of X G a_law)
  cases e
  simp only [List.all_cons, List.all_nil, Bool.and_true, Bool.and_eq_true] at hrec
  have B : Bl mg := ⟨PySem.W.mg_none_of X G b_isinstance, PySem.W.mg_none_of X G b_len, PySem.W.mg_none_of X G b_int, PySem.W.mg_none_of X G b_bool, PySem.W.mg_none_of X G b_str, PySem.W.mg_none_of X G b_list, PySem.W.mg_none_of X G b_tuple, PySem.W.mg_none_of X G b_range, PySem.W.mg_none_of X G b_all, PySem.W.mg_none_of X G b_any, PySem.W.mg_none_of X G b_zip, PySem.W.mg_none_of X G b_enumerate, PySem.W.mg_none_of X G b_min⟩
  have KBehaviourF : CFx K mg "Behaviour" KBehaviour bN := ⟨PySem.W.mg_of X G g_KBehaviour, ⟨⟨pg_KBehaviour, hd_KBehaviour, po_KBehaviour, sa_KBehaviour⟩, ha_KBehaviour, hn, htk, hm_KBehaviour⟩, kit_self, fun f hf => by
    simp only [bN, List.mem_cons, List.not_mem_nil, or_false] at hf
    rcases hf with rfl | rfl | rfl | rfl | rfl | rfl
    · exact n_KBehaviour_deeds
    · exact n_KBehaviour_many
    · exact n_KBehaviour_leads
    · exact n_KBehaviour_arrows
    · exact n_KBehaviour_ways
    · exact n_KBehaviour_kept⟩
  have PB : PeB K mg "PartsError" PE := ⟨PySem.W.mg_of X G g_PE, pe_ga, pe_rd, pe_fi⟩
  obtain ⟨O_c7, X_c7⟩ := oex_of o_c7 x_c7
  have F_xc7 := fun_mk (st := (inClass (top 10) 0)) l_xc7 c_xc7 k_xc7
  have b_xc7 := F_xc7.binds (ps := ["self", "stand"]) fun _ _ _ _ _ _ us hl => match us, hl with | [_, _], _ => rfl
  obtain ⟨O_c1, X_c1⟩ := oex_of o_c1 x_c1
  have F_xc1 := fun_mk (st := (inClass (top 3) 0)) l_xc1 c_xc1 k_xc1
  have b_xc1 := F_xc1.binds (ps := ["self", "what", "number"]) fun _ _ _ _ _ _ us hl => match us, hl with | [_, _, _], _ => rfl
  have F_is_whole := fun_mk (st := s_is_whole) l_is_whole c_is_whole k_is_whole
  have b_is_whole := F_is_whole.binds (ps := ["value"]) fun _ _ _ _ _ _ us hl => match us, hl with | [_], _ => rfl
  have g_is_whole := PySem.W.mg_of X G a_is_whole
  have F_is_name := fun_mk (st := s_is_name) l_is_name c_is_name k_is_name
  have b_is_name := F_is_name.binds (ps := ["value"]) fun _ _ _ _ _ _ us hl => match us, hl with | [_], _ => rfl
  have g_is_name := PySem.W.mg_of X G a_is_name
  have F_is_short_of_names := fun_mk (st := s_short) l_is_short_of_names c_is_short_of_names k_is_short_of_names
  have b_is_short_of_names := F_is_short_of_names.binds (ps := ["deeds"]) fun _ _ _ _ _ _ us hl => match us, hl with | [_], _ => rfl
  have g_is_short_of_names := PySem.W.mg_of X G a_is_short_of_names
  have F_law_draw := fun_mk (st := s_draw) l_law_draw c_law_draw k_law_draw
  have b_law_draw := F_law_draw.binds (ps := ["pen", "many"]) fun _ _ _ _ _ _ us hl => match us, hl with | [_, _], _ => rfl
  have g_law_draw := PySem.W.mg_of X G a_law_draw
  have F_law_pen := fun_mk (st := s_pen) l_law_pen c_law_pen k_law_pen
  have b_law_pen := F_law_pen.binds (ps := ["script"]) fun _ _ _ _ _ _ us hl => match us, hl with | [_], _ => rfl
  have g_law_pen := PySem.W.mg_of X G a_law_pen
  have F_law_pick := fun_mk (st := s_pick) l_law_pick c_law_pick k_law_pick
  have b_law_pick := F_law_pick.binds (ps := ["pen", "some"]) fun _ _ _ _ _ _ us hl => match us, hl with | [_, _], _ => rfl
  have g_law_pick := PySem.W.mg_of X G a_law_pick
  have F_law_name := fun_mk (st := s_name) l_law_name c_law_name k_law_name
  have b_law_name := F_law_name.binds (ps := ["pen"]) fun _ _ _ _ _ _ us hl => match us, hl with | [_], _ => rfl
  have g_law_name := PySem.W.mg_of X G a_law_name
  have F_law_names := fun_mk (st := s_names) l_law_names c_law_names k_law_names
  have b_law_names := F_law_names.binds (ps := ["pen", "many"]) fun _ _ _ _ _ _ us hl => match us, hl with | [_, _], _ => rfl
  have g_law_names := PySem.W.mg_of X G a_law_names
  have F_law_is := fun_mk (st := s_is) l_law_is c_law_is k_law_is
  have b_law_is := F_law_is.binds (ps := ["told", "due"]) fun _ _ _ _ _ _ us hl => match us, hl with | [_, _], _ => rfl
  have g_law_is := PySem.W.mg_of X G a_law_is
  have F_is_index := fun_mk (st := s_index) l_is_index c_is_index k_is_index
  have b_is_index := F_is_index.binds (ps := ["value", "many"]) fun _ _ _ _ _ _ us hl => match us, hl with | [_, _], _ => rfl
  have g_is_index := PySem.W.mg_of X G a_is_index
  have F_law_shuffled := fun_mk (st := s_shuf) l_law_shuffled c_law_shuffled k_law_shuffled
  have b_law_shuffled := F_law_shuffled.binds (ps := ["pen", "some"]) fun _ _ _ _ _ _ us hl => match us, hl with | [_, _], _ => rfl
  have g_law_shuffled := PySem.W.mg_of X G a_law_shuffled
  have F_need_names := fun_mk (st := s_needNames) l_need_names c_need_names k_need_names
  have b_need_names := F_need_names.binds (ps := ["deeds"]) fun _ _ _ _ _ _ us hl => match us, hl with | [_], _ => rfl
  have g_need_names := PySem.W.mg_of X G a_need_names
  have F_need_leads := fun_mk (st := s_needLeads) l_need_leads c_need_leads k_need_leads
  have b_need_leads := F_need_leads.binds (ps := ["many_deeds", "many", "arrows"]) fun _ _ _ _ _ _ us hl => match us, hl with | [_, _, _], _ => rfl
  have g_need_leads := PySem.W.mg_of X G a_need_leads
  have F_found_ways := fun_mk (st := s_foundWays) l_found_ways c_found_ways k_found_ways
  have b_found_ways := F_found_ways.binds (ps := ["behaviour"]) fun _ _ _ _ _ _ us hl => match us, hl with | [_], _ => rfl
  have g_found_ways := PySem.W.mg_of X G a_found_ways
  have F_need_stand := fun_mk (st := s_needStand) l_need_stand c_need_stand k_need_stand
  have b_need_stand := F_need_stand.binds (ps := ["behaviour", "stand"]) fun _ _ _ _ _ _ us hl => match us, hl with | [_, _], _ => rfl
  have g_need_stand := PySem.W.mg_of X G a_need_stand
  have F_deeds_at := fun_mk (st := s_deedsAt) l_deeds_at c_deeds_at k_deeds_at
  have b_deeds_at := F_deeds_at.binds (ps := ["behaviour", "stand"]) fun _ _ _ _ _ _ us hl => match us, hl with | [_, _], _ => rfl
  have g_deeds_at := PySem.W.mg_of X G a_deeds_at
  have F_law_made := fun_mk (st := s_made) l_law_made c_law_made k_law_made
  have b_law_made := F_law_made.binds (ps := ["rows"]) fun _ _ _ _ _ _ us hl => match us, hl with | [_], _ => rfl
  have g_law_made := PySem.W.mg_of X G a_law_made
  have F_law_arrow := fun_mk (st := s_larrow) l_law_arrow c_law_arrow k_law_arrow
  have b_law_arrow := F_law_arrow.binds (ps := ["rows", "stand", "deed"]) fun _ _ _ _ _ _ us hl => match us, hl with | [_, _, _], _ => rfl
  have g_law_arrow := PySem.W.mg_of X G a_law_arrow
  have F_law_behind := fun_mk (st := s_lbehind) l_law_behind c_law_behind k_law_behind
  have b_law_behind := F_law_behind.binds (ps := ["rows", "run"]) fun _ _ _ _ _ _ us hl => match us, hl with | [_, _], _ => rfl
  have g_law_behind := PySem.W.mg_of X G a_law_behind
  have F_law_free := fun_mk (st := s_free) l_law_free c_law_free k_law_free
  have b_law_free := F_law_free.binds (ps := ["many", "deeds", "arrows"]) fun _ _ _ _ _ _ us hl => match us, hl with | [_, _, _], _ => rfl
  have g_law_free := PySem.W.mg_of X G a_law_free
  have F_law_drawn_rows := fun_mk (st := s_drawn) l_law_drawn_rows c_law_drawn_rows k_law_drawn_rows
  have b_law_drawn_rows := F_law_drawn_rows.binds (ps := ["pen", "many", "deeds"]) fun _ _ _ _ _ _ us hl => match us, hl with | [_, _, _], _ => rfl
  have g_law_drawn_rows := PySem.W.mg_of X G a_law_drawn_rows
  have F_is_number := fun_mk (st := s_num) l_is_number c_is_number k_is_number
  have b_is_number := F_is_number.binds (ps := ["value"]) fun _ _ _ _ _ _ us hl => match us, hl with | [_], _ => rfl
  have g_is_number := PySem.W.mg_of X G a_is_number
  have F_runs := fun_mk (st := s_runs) l_runs c_runs k_runs
  have b_runs := F_runs.binds (ps := ["behaviour", "most"]) fun _ _ _ _ _ _ us hl => match us, hl with | [_, _], _ => rfl
  have g_runs := PySem.W.mg_of X G a_runs
  have F_law_all_runs := fun_mk (st := s_all) l_law_all_runs c_law_all_runs k_law_all_runs
  have b_law_all_runs := F_law_all_runs.binds (ps := ["rows", "most"]) fun _ _ _ _ _ _ us hl => match us, hl with | [_, _], _ => rfl
  have g_law_all_runs := PySem.W.mg_of X G a_law_all_runs
  have F_law := funL_mk (st := s_law) l_law c_law
  have g_law := PySem.W.mg_of X G a_law
  have F_law_caught := fun_mk (st := s_caught) l_law_caught c_law_caught k_law_caught
  have b_law_caught := F_law_caught.binds (ps := ["action"]) fun _ _ _ _ _ _ us hl => match us, hl with | [_], _ => rfl
  have g_law_caught := PySem.W.mg_of X G a_law_caught
  have F_Behaviourinit := fun_mk (st := s_binit) l_Behaviourinit c_Behaviourinit k_Behaviourinit
  have b_Behaviourinit := F_Behaviourinit.binds (ps := ["self", "deeds", "many", "arrows"]) fun _ _ _ _ _ _ us hl => match us, hl with | [_, _, _, _], _ => rfl
  have e_law := tab_empty em hrec g_law l_law rfl t_law
  refine topT_mk (fd := PySem.W.fnOf "law" "law" (defArgs s_law) (defBody s_law) (defScope s_law) .none kV_law dc_law pm_law an_law (.ref c0_law) ct_law) [(c0_law, tabA K c0_law, lq "law")] (fun p hp => ?_) (List.nodup_cons.mpr ⟨by simp, List.nodup_nil⟩) (fun s v => .of_eq rfl) (fun ns hl => g_spLaw ns) fun base KB GB TBs => ?_
  · simp only [List.mem_cons, List.not_mem_nil, or_false] at hp
    rcases hp with rfl
    · exact ⟨e_law, t_law⟩
  have T_law := TBs (c0_law, tabA K c0_law, lq "law") (by simp)
  have M_c7 : XMk l.prog w K mg base "NoStand" c7 ["stand"] := ⟨_, _, _, O_c7, PySem.W.mg_of X G g_c7, a_xc7, i_xc7, b_xc7, ok_xNoStand PB O_c7 (X_c7.no _ (by simp)) F_xc7⟩
  have M_c1 : XMk l.prog w K mg base "BadNumber" c1 ["what", "number"] := ⟨_, _, _, O_c1, PySem.W.mg_of X G g_c1, a_xc1, i_xc1, b_xc1, ok_xBadNumber PB O_c1 (X_c1.no _ (by simp)) (X_c1.no _ (by simp)) F_xc1⟩
  have d_is_whole_spIsWhole := def_mk (P := l.prog) (w := w) (base := base) g_is_whole F_is_whole b_is_whole (ok_is_whole B F_is_whole)
  have d_is_name_spIsName := def_mk (P := l.prog) (w := w) (base := base) g_is_name F_is_name b_is_name (ok_is_name B (PySem.W.mg_of X G s_LETTERS) (PySem.W.mg_of X G s_SIGNS) F_is_name)
  have d_is_short_of_names_spShort := def_mk (P := l.prog) (w := w) (base := base) g_is_short_of_names F_is_short_of_names b_is_short_of_names (ok_short B F_is_short_of_names d_is_name_spIsName)
  have d_law_draw_spDraw := def_mk (P := l.prog) (w := w) (base := base) g_law_draw F_law_draw b_law_draw (ok_draw B F_law_draw)
  have d_law_pen_spPen := def_mk (P := l.prog) (w := w) (base := base) g_law_pen F_law_pen b_law_pen (ok_pen B F_law_pen)
  have d_law_pick_spPickS := def_mk (P := l.prog) (w := w) (base := base) g_law_pick F_law_pick b_law_pick (ok_pickS B F_law_pick d_law_draw_spDraw)
  have d_law_pick_spPickL := def_mk (P := l.prog) (w := w) (base := base) g_law_pick F_law_pick b_law_pick (ok_pickL B F_law_pick d_law_draw_spDraw)
  have d_law_name_spName := def_mk (P := l.prog) (w := w) (base := base) g_law_name F_law_name b_law_name (ok_name B F_law_name d_law_draw_spDraw d_law_pick_spPickS)
  have d_law_names_spNames := def_mk (P := l.prog) (w := w) (base := base) g_law_names F_law_names b_law_names (ok_names B F_law_names d_law_name_spName)
  have d_is : ∀ n, Def l.prog w K mg base (n + 1) "_law_is" (spIs n) := fun n => by
    induction n with
    | zero => exact DL.def_mk (P := l.prog) (w := w) (base := base) g_law_is F_law_is b_law_is (ok_is 0 B F_law_is fun m e => nomatch e)
    | succ n ih => exact DL.def_mk (P := l.prog) (w := w) (base := base) g_law_is F_law_is b_law_is (ok_is (n + 1) B F_law_is fun m e => by cases e; exact ih)
  have d_is_whole_spWh := def_mk (P := l.prog) (w := w) (base := base) g_is_whole F_is_whole b_is_whole (ok_wh B F_is_whole)
  have d_law_shuffled_spShuf := def_mk (P := l.prog) (w := w) (base := base) g_law_shuffled F_law_shuffled b_law_shuffled (ok_shuf B F_law_shuffled d_law_draw_spDraw)
  have d_need_names_spNeedNames := def_mk (P := l.prog) (w := w) (base := base) g_need_names F_need_names b_need_names (ok_needNames B F_need_names d_is_short_of_names_spShort)
  have d_found_ways_spFoundWays := def_mk (P := l.prog) (w := w) (base := base) g_found_ways F_found_ways b_found_ways (ok_foundWays B KBehaviourF F_found_ways)
  have d_law_arrow_spLArrow := def_mk (P := l.prog) (w := w) (base := base) g_law_arrow F_law_arrow b_law_arrow (ok_larrow F_law_arrow)
  have d_law_behind_spLBehind := def_mk (P := l.prog) (w := w) (base := base) g_law_behind F_law_behind b_law_behind (ok_lbehind F_law_behind d_law_arrow_spLArrow)
  have d_law_free_spFree := def_mk (P := l.prog) (w := w) (base := base) g_law_free F_law_free b_law_free (ok_free B F_law_free)
  have d_law_drawn_rows_spDrawn := def_mk (P := l.prog) (w := w) (base := base) g_law_drawn_rows F_law_drawn_rows b_law_drawn_rows (ok_drawn B (PySem.W.mg_none_of X G b_sorted) F_law_drawn_rows d_law_draw_spDraw d_law_pick_spPickL d_law_shuffled_spShuf d_law_free_spFree d_law_names_spNames)
  have d_is_number_spNum := def_mk (P := l.prog) (w := w) (base := base) g_is_number F_is_number b_is_number (ok_num B F_is_number d_is_whole_spWh)
  have d_law_all_runs_spAll := def_mk (P := l.prog) (w := w) (base := base) g_law_all_runs F_law_all_runs b_law_all_runs (ok_all B (PySem.W.mg_none_of X G b_sorted) F_law_all_runs d_law_behind_spLBehind)
  have d_is_index_spIndex := def_mk (P := l.prog) (w := w) (base := base) g_is_index F_is_index b_is_index (ok_index F_is_index d_is_whole_spWh)
  have d_need_leads_spNeedLeads := def_mk (P := l.prog) (w := w) (base := base) g_need_leads F_need_leads b_need_leads (ok_needLeads B F_need_leads d_is_index_spIndex)
  have k_Behaviour : Mkr l.prog w K mg base 4 "Behaviour" KBehaviour spBeh := ⟨_, _, _, PySem.W.mg_of X G g_KBehaviour, ⟨mk_KBehaviour, a_Behaviourinit, i_Behaviourinit, kc_KBehaviour⟩, b_Behaviourinit, ok_binit B (PySem.W.mg_none_of X G b_sorted) KBehaviourF F_Behaviourinit d_need_names_spNeedNames d_is_whole_spWh d_need_leads_spNeedLeads d_found_ways_spFoundWays⟩
  have d_need_stand_spNeedStand := def_mk (P := l.prog) (w := w) (base := base) g_need_stand F_need_stand b_need_stand (ok_needStand B KBehaviourF M_c7 F_need_stand d_is_index_spIndex)
  have d_deeds_at_spDeedsAt := def_mk (P := l.prog) (w := w) (base := base) g_deeds_at F_deeds_at b_deeds_at (ok_deedsAt B KBehaviourF F_deeds_at d_need_stand_spNeedStand)
  have d_law_made_spMade := def_mk (P := l.prog) (w := w) (base := base) g_law_made F_law_made b_law_made (ok_made F_law_made k_Behaviour)
  have d_runs_spRuns := def_mk (P := l.prog) (w := w) (base := base) g_runs F_runs b_runs (ok_runs B KBehaviourF M_c1 F_runs d_is_number_spNum d_deeds_at_spDeedsAt)
  have nd := of_decide_eq_true s_nd
  have XGs : XG K mg c0 c1 c2 c3 c4 c5 c6 c7 c8 c9 c10 c11 := ⟨PySem.W.mg_of X G g_c0, PySem.W.mg_of X G g_c1, PySem.W.mg_of X G g_c2, PySem.W.mg_of X G g_c3, PySem.W.mg_of X G g_c4, PySem.W.mg_of X G g_c5, PySem.W.mg_of X G g_c6, PySem.W.mg_of X G g_c7, PySem.W.mg_of X G g_c8, PySem.W.mg_of X G g_c9, PySem.W.mg_of X G g_c10, PySem.W.mg_of X G g_c11⟩
  have al_c1 : ∀ D ∈ [c0, c1, c2, c3, c4, c5, c6, c7, c8, c9, c10, c11], PySem.W.kitOne K (.ref c1) (.ref D) = some (c1 == D) := fun D hD => alone_of s_c1 hD
  have cg := ok_caught (P := l.prog) (w := w) (base := base) B g_law_caught F_law_caught b_law_caught PB.g XGs X_c1 nd al_c1
  exact ok_law (by simp) ⟨B, (PySem.W.mg_none_of X G b_repr), d_law_pen_spPen, d_law_draw_spDraw, d_law_pick_spPickL, d_law_drawn_rows_spDrawn, d_law_made_spMade, d_law_all_runs_spAll, d_runs_spRuns, (d_is 2), cg⟩ F_law T_law
theorem walk {l : PySem.W.OpenLaw} {q : Program} {loose : List Str} {XP : (Str → Option Value) → Heap → Prop} {YP : World → Heap → Prop} {d : DefRec} {K : Params → PySem.W.Frag} (hn : l.most = some 63) (hdf : d.params.defaults = [])
    (hY : ∀ (w : World) (h : Heap), YP w h → (K w.params).In h)
    (F : ∀ (w : World) (mg : Str → Option Value) (fa : Addr) (h : Heap), (K w.params).In h → h.Ns mainGlobals mg → mg d.name = some (.ref fa) → Empt q (K w.params) mg h → TopT l w (K w.params) 10 63 "script" mg fa h) :
    PySem.W.WalkO q loose XP YP l.row.toRowW d [] (fun f vs => PySem.call f vs) := walk_T (n := 63) (k := 10) (x := "script") hn (by decide) hdf ⟨rfl, by decide, by decide⟩ hY F
end K15
end
set_option Elab.async false
set_option linter.all false
open PySem PySem.W PyProof.Rows
set_option maxRecDepth 100000 in
set_option maxHeartbeats 0 in
theorem PySem.Challenge.cw_partsfound_k15_whole_runs_in_order_holds : PySem.Challenge.rw_partsfound_k15_whole_runs_in_order.Holds := by
  w_on; o_law; k_head; (case hw => w_witness2)
  k_fill
  refine K15.walk (l := PySem.Challenge.rw_partsfound_k15_whole_runs_in_order) rfl rfl (fun w h Y => PySem.W.km_in_of Y) ?F
  case F =>
    intro w mg fa h KX G hmg em
    refine' K15.all_mk KX G hmg em (by decide +kernel) ?g_KBehaviour ?g_c0 ?g_c1 ?g_c2 ?g_c3 ?g_c4 ?g_c5 ?g_c6 ?g_c7 ?g_c8 ?g_c9 ?g_c10 ?g_c11 ?g_PE ?pe_ga ?pe_rd ?pe_fi ?a_is_whole ?l_is_whole ?c_is_whole ?k_is_whole ?a_is_name ?l_is_name ?c_is_name ?k_is_name ?a_is_short_of_names ?l_is_short_of_names ?c_is_short_of_names ?k_is_short_of_names ?a_law_draw ?l_law_draw ?c_law_draw ?k_law_draw ?a_law_pen ?l_law_pen ?c_law_pen ?k_law_pen ?a_law_pick ?l_law_pick ?c_law_pick ?k_law_pick ?a_law_name ?l_law_name ?c_law_name ?k_law_name ?a_law_names ?l_law_names ?c_law_names ?k_law_names ?a_law_is ?l_law_is ?c_law_is ?k_law_is ?a_is_index ?l_is_index ?c_is_index ?k_is_index ?a_law_shuffled ?l_law_shuffled ?c_law_shuffled ?k_law_shuffled ?a_need_names ?l_need_names ?c_need_names ?k_need_names ?a_need_leads ?l_need_leads ?c_need_leads ?k_need_leads ?a_found_ways ?l_found_ways ?c_found_ways ?k_found_ways ?a_need_stand ?l_need_stand ?c_need_stand ?k_need_stand ?a_deeds_at ?l_deeds_at ?c_deeds_at ?k_deeds_at ?a_law_made ?l_law_made ?c_law_made ?k_law_made ?a_law_arrow ?l_law_arrow ?c_law_arrow ?k_law_arrow ?a_law_behind ?l_law_behind ?c_law_behind ?k_law_behind ?a_law_free ?l_law_free ?c_law_free ?k_law_free ?a_law_drawn_rows ?l_law_drawn_rows ?c_law_drawn_rows ?k_law_drawn_rows ?a_is_number ?l_is_number ?c_is_number ?k_is_number ?a_runs ?l_runs ?c_runs ?k_runs ?a_law_all_runs ?l_law_all_runs ?c_law_all_runs ?k_law_all_runs ?a_law ?l_law ?c_law ?k_law ?t_law ?a_law_caught ?l_law_caught ?c_law_caught ?k_law_caught ?a_Behaviourinit ?i_Behaviourinit ?l_Behaviourinit ?c_Behaviourinit ?k_Behaviourinit ?a_xc7 ?i_xc7 ?l_xc7 ?c_xc7 ?k_xc7 ?o_c7 ?x_c7 ?s_c7 ?a_xc1 ?i_xc1 ?l_xc1 ?c_xc1 ?k_xc1 ?o_c1 ?x_c1 ?s_c1 ?s_nd ?pg_KBehaviour ?hd_KBehaviour ?po_KBehaviour ?sa_KBehaviour ?mk_KBehaviour ?kc_KBehaviour ?ha_KBehaviour ?hm_KBehaviour ?n_KBehaviour_deeds ?n_KBehaviour_many ?n_KBehaviour_leads ?n_KBehaviour_arrows ?n_KBehaviour_ways ?n_KBehaviour_kept ?hn ?htk ?b_isinstance ?b_len ?b_int ?b_bool ?b_str ?b_list ?b_tuple ?b_range ?b_all ?b_any ?b_zip ?b_enumerate ?b_min ?b_sorted ?b_repr ?s_LETTERS ?s_SIGNS
    (case g_KBehaviour => k_is)
    (case g_c0 => k_is)
    (case g_c1 => k_is)
    (case g_c2 => k_is)
    (case g_c3 => k_is)
    (case g_c4 => k_is)
    (case g_c5 => k_is)
    (case g_c6 => k_is)
    (case g_c7 => k_is)
    (case g_c8 => k_is)
    (case g_c9 => k_is)
    (case g_c10 => k_is)
    (case g_c11 => k_is)
    (case g_PE => k_is)
    (case pe_ga => k_is)
    (case pe_rd => k_is)
    (case pe_fi => k_is)
    (case a_is_whole => k_is)
    (case l_is_whole => k_is)
    (case c_is_whole => k_is)
    (case k_is_whole => k_is)
    (case a_is_name => k_is)
    (case l_is_name => k_is)
    (case c_is_name => k_is)
    (case k_is_name => k_is)
    (case a_is_short_of_names => k_is)
    (case l_is_short_of_names => k_is)
    (case c_is_short_of_names => k_is)
    (case k_is_short_of_names => k_is)
    (case a_law_draw => k_is)
    (case l_law_draw => k_is)
    (case c_law_draw => k_is)
    (case k_law_draw => k_is)
    (case a_law_pen => k_is)
    (case l_law_pen => k_is)
    (case c_law_pen => k_is)
    (case k_law_pen => k_is)
    (case a_law_pick => k_is)
    (case l_law_pick => k_is)
    (case c_law_pick => k_is)
    (case k_law_pick => k_is)
    (case a_law_name => k_is)
    (case l_law_name => k_is)
    (case c_law_name => k_is)
    (case k_law_name => k_is)
    (case a_law_names => k_is)
    (case l_law_names => k_is)
    (case c_law_names => k_is)
    (case k_law_names => k_is)
    (case a_law_is => k_is)
    (case l_law_is => k_is)
    (case c_law_is => k_is)
    (case k_law_is => k_is)
    (case a_is_index => k_is)
    (case l_is_index => k_is)
    (case c_is_index => k_is)
    (case k_is_index => k_is)
    (case a_law_shuffled => k_is)
    (case l_law_shuffled => k_is)
    (case c_law_shuffled => k_is)
    (case k_law_shuffled => k_is)
    (case a_need_names => k_is)
    (case l_need_names => k_is)
    (case c_need_names => k_is)
    (case k_need_names => k_is)
    (case a_need_leads => k_is)
    (case l_need_leads => k_is)
    (case c_need_leads => k_is)
    (case k_need_leads => k_is)
    (case a_found_ways => k_is)
    (case l_found_ways => k_is)
    (case c_found_ways => k_is)
    (case k_found_ways => k_is)
    (case a_need_stand => k_is)
    (case l_need_stand => k_is)
    (case c_need_stand => k_is)
    (case k_need_stand => k_is)
    (case a_deeds_at => k_is)
    (case l_deeds_at => k_is)
    (case c_deeds_at => k_is)
    (case k_deeds_at => k_is)
    (case a_law_made => k_is)
    (case l_law_made => k_is)
    (case c_law_made => k_is)
    (case k_law_made => k_is)
    (case a_law_arrow => k_is)
    (case l_law_arrow => k_is)
    (case c_law_arrow => k_is)
    (case k_law_arrow => k_is)
    (case a_law_behind => k_is)
    (case l_law_behind => k_is)
    (case c_law_behind => k_is)
    (case k_law_behind => k_is)
    (case a_law_free => k_is)
    (case l_law_free => k_is)
    (case c_law_free => k_is)
    (case k_law_free => k_is)
    (case a_law_drawn_rows => k_is)
    (case l_law_drawn_rows => k_is)
    (case c_law_drawn_rows => k_is)
    (case k_law_drawn_rows => k_is)
    (case a_is_number => k_is)
    (case l_is_number => k_is)
    (case c_is_number => k_is)
    (case k_is_number => k_is)
    (case a_runs => k_is)
    (case l_runs => k_is)
    (case c_runs => k_is)
    (case k_runs => k_is)
    (case a_law_all_runs => k_is)
    (case l_law_all_runs => k_is)
    (case c_law_all_runs => k_is)
    (case k_law_all_runs => k_is)
    (case a_law => k_is)
    (case l_law => k_is)
    (case c_law => k_is)
    (case k_law => k_is)
    (case t_law => first | kernel_rfl | with_unfolding_all rfl | decide +kernel)
    (case a_law_caught => k_is)
    (case l_law_caught => k_is)
    (case c_law_caught => k_is)
    (case k_law_caught => k_is)
    (case a_Behaviourinit => k_is)
    (case i_Behaviourinit => k_is)
    (case l_Behaviourinit => k_is)
    (case c_Behaviourinit => k_is)
    (case k_Behaviourinit => k_is)
    (case a_xc7 => k_is)
    (case i_xc7 => k_is)
    (case l_xc7 => k_is)
    (case c_xc7 => k_is)
    (case k_xc7 => k_is)
    (case o_c7 => first | kernel_rfl | with_unfolding_all rfl | decide +kernel)
    (case x_c7 => first | kernel_rfl | with_unfolding_all rfl | decide +kernel)
    (case s_c7 => first | kernel_rfl | with_unfolding_all rfl | decide +kernel)
    (case a_xc1 => k_is)
    (case i_xc1 => k_is)
    (case l_xc1 => k_is)
    (case c_xc1 => k_is)
    (case k_xc1 => k_is)
    (case o_c1 => first | kernel_rfl | with_unfolding_all rfl | decide +kernel)
    (case x_c1 => first | kernel_rfl | with_unfolding_all rfl | decide +kernel)
    (case s_c1 => first | kernel_rfl | with_unfolding_all rfl | decide +kernel)
    (case s_nd => first | kernel_rfl | with_unfolding_all rfl | decide +kernel)
    (case pg_KBehaviour => k_is)
    (case hd_KBehaviour => k_is)
    (case po_KBehaviour => k_is)
    (case sa_KBehaviour => k_is)
    (case mk_KBehaviour => k_is)
    (case kc_KBehaviour => k_is)
    (case ha_KBehaviour => k_is)
    (case hm_KBehaviour => k_is)
    (case n_KBehaviour_deeds => k_is)
    (case n_KBehaviour_many => k_is)
    (case n_KBehaviour_leads => k_is)
    (case n_KBehaviour_arrows => k_is)
    (case n_KBehaviour_ways => k_is)
    (case n_KBehaviour_kept => k_is)
    (case hn => k_is)
    (case htk => k_is)
    (case b_isinstance => k_is)
    (case b_len => k_is)
    (case b_int => k_is)
    (case b_bool => k_is)
    (case b_str => k_is)
    (case b_list => k_is)
    (case b_tuple => k_is)
    (case b_range => k_is)
    (case b_all => k_is)
    (case b_any => k_is)
    (case b_zip => k_is)
    (case b_enumerate => k_is)
    (case b_min => k_is)
    (case b_sorted => k_is)
    (case b_repr => k_is)
    (case s_LETTERS => k_is)
    (case s_SIGNS => k_is)
