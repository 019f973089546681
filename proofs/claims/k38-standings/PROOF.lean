import PyProof.Rows.All
import Wide.All
import OpenK.AllK
import Wide.FinOn
import HandS.Base
import HandS.Call
import HandS.List
import HandS.Comp
import HandS.Words
import HandS.WordsExc
import HandS.Lambda
import HandS.Iter
import HandS.Zip
import HandS.Text
import HandS.Flow
import HandS.Style
import HandS.IsInst
import HandS.TupAny
import HandS.TupMul
import HandS.TupLe
import HandS.Deep
import HandS.Wide
import HandS.OwnEq
import HandS.Dict
import HandS.WordsDict
import KE.GoesEnum
import HandS.RaiseMore
import HandS.ExcInit
import HandS.ExcIs
import HandS.ExcField
import HandS.FStrTup
import HandS.EndTab
import HandS.NestedK
import HandS.Gcd
import HandS.SetFor
import HandS.Strs
import KE.DatumOrd
import HandS.ExcValue
import PySem.Challenge.RW_partsfound_k38_standings_walked
set_option Elab.async false
section
set_option Elab.async false
set_option linter.all false
set_option maxRecDepth 100000
set_option maxHeartbeats 4000000
/-! DL0: data in place of the heap. Shared things (Sh), what a value stands for (Rp), steps (Stp), slots (Slots), the judgements. -/
namespace DL
open PySem PySem.Spec PyProof.Rows L2

/-! ### the weakest readings -/
def We (X : Cx) (e : Expr) : TE := fun σ H Q => ∀ pins s, Inv X pins σ H s → wpAny (model X.prog X.w) X.A (eval e X.env) (EP X pins σ Q) X.xe s
def Wt (X : Cx) (e : Expr) : TT := fun σ H Q => ∀ pins s, Inv X pins σ H s → wpAny (model X.prog X.w) X.A (isTrue e X.env (eval e X.env)) (TP X pins σ Q) X.xe s
def Ww (X : Cx) (e : Expr) : TT := fun σ H Q => ∀ whole pins s, Inv X pins σ H s → wpAny (model X.prog X.w) X.A (isTrue e X.env whole) (TP X pins σ Q) X.xe s
def Wa (X : Cx) (es : List Expr) : TA := fun σ H Q => ∀ pos pins s, Inv X pins σ H s → wpAny (model X.prog X.w) X.A (spliced (backTo pos (starEach es X.env))) (AP X pins σ Q) X.xe s
def Ws (X : Cx) (st : Stmt) : TS := fun D σ H => ∀ pins s, Inv X pins σ H s → wpAny (model X.prog X.w) X.A (exec st X.env) (SP X pins D) X.xe s
def Wss (X : Cx) (st : List Stmt) : TS := fun D σ H => ∀ pins s, Inv X pins σ H s → wpAny (model X.prog X.w) X.A (execs st X.env) (SP X pins D) X.xe s
def Wg (X : Cx) (tg : Expr) : TG := fun v σ H Q => ∀ pins s u, Inv X pins σ H s → RelV v u → wpAny (model X.prog X.w) X.A (assign tg X.env u) (fun _ s' => ∃ σ' H', Inv X pins σ' H' s' ∧ Q σ' H') X.xe s
section
variable {X : Cx} {e : Expr} {es : List Expr} {st : Stmt} {sts : List Stmt} {σ : L2.St} {H : Hp}
theorem pe_we : PE X e (We X e) := ⟨fun pins s σ H Q I h => h pins s I⟩
theorem pt_we : PT X e (Wt X e) := ⟨fun pins s σ H Q I h => h pins s I⟩
theorem pw_we : PW X e (Ww X e) := ⟨fun wh pins s σ H Q I h => h wh pins s I⟩
theorem pa_we : PA X es (Wa X es) := ⟨fun pos pins s σ H Q I h => h pos pins s I⟩
theorem ps_we : PS X st (Ws X st) := ⟨fun pins s σ H D I h => h pins s I⟩
theorem pss_we : PSs X sts (Wss X sts) := ⟨fun pins s σ H D I h => h pins s I⟩
theorem pg_we {tg : Expr} : PG X tg (Wg X tg) := ⟨fun pins s σ H v u Q I r h => h pins s u I r⟩
theorem We.of {t : TE} {Q : VK} (h : PE X e t) (q : t σ H Q) : We X e σ H Q := fun pins s I => h.run pins s σ H Q I q
theorem Wt.of {t : TT} {Q} (h : PT X e t) (q : t σ H Q) : Wt X e σ H Q := fun pins s I => h.run pins s σ H Q I q
theorem Ww.of {t : TT} {Q} (h : PW X e t) (q : t σ H Q) : Ww X e σ H Q := fun wh pins s I => h.run wh pins s σ H Q I q
theorem Wa.of {t : TA} {Q} (h : PA X es t) (q : t σ H Q) : Wa X es σ H Q := fun pos pins s I => h.run pos pins s σ H Q I q
theorem Ws.of {t : TS} {D} (h : PS X st t) (q : t D σ H) : Ws X st D σ H := fun pins s I => h.run pins s σ H D I q
theorem Wss.of {t : TS} {D} (h : PSs X sts t) (q : t D σ H) : Wss X sts D σ H := fun pins s I => h.run pins s σ H D I q
theorem We.mono {Q Q' : VK} (h : We X e σ H Q) (k : ∀ v H', Q v H' → Q' v H') : We X e σ H Q' := fun pins s I =>
  thn (h pins s I) fun _ _ ⟨v, H', I', r, q⟩ => ⟨v, H', I', r, k v H' q⟩
theorem Wt.mono {Q Q' : Bool → Hp → Prop} (h : Wt X e σ H Q) (k : ∀ v H', Q v H' → Q' v H') : Wt X e σ H Q' := fun pins s I =>
  thn (h pins s I) fun _ _ ⟨H', I', q⟩ => ⟨H', I', k _ H' q⟩
theorem Ww.mono {Q Q' : Bool → Hp → Prop} (h : Ww X e σ H Q) (k : ∀ v H', Q v H' → Q' v H') : Ww X e σ H Q' := fun wh pins s I =>
  thn (h wh pins s I) fun _ _ ⟨H', I', q⟩ => ⟨H', I', k _ H' q⟩
theorem Wa.mono {Q Q' : List V → Hp → Prop} (h : Wa X es σ H Q) (k : ∀ v H', Q v H' → Q' v H') : Wa X es σ H Q' := fun pos pins s I =>
  thn (h pos pins s I) fun _ _ ⟨v, H', I', r, q⟩ => ⟨v, H', I', r, k v H' q⟩
end

/-! ### data -/
inductive D where
  | non | bl (b : Bool) | int (i : Int) | str (x : Str) | ty (n : String)
  | tup (l : List D) | lst (l : List D)
  /-- a frozen instance of the class at C: its attributes by name -/
  | ins (C : Addr) (ns : List Str) (l : List D)
  | adr (a : Addr)
  | scr (ns : List Int)
  /-- a frozen list, its address told -/
  | lsA (a : Addr) (l : List D)
  | pen
  /-- the caught exception at a: its class, its dict at dd -/
  | xc (a C dd : Addr) (ns : List Str) (l : List D)
  /-- frozen dicts: keys, values -/
  | dK (ks : List Key) (l : List D)
  | dT (ks : List (List Key)) (l : List D)
  /-- of one's own: a list, an instance, dicts -/
  | ol (l : List D)
  | oi (a C : Addr) (ns : List Str) (l : List D)
  | oK (a : Addr) (ks : List Key) (l : List D)
  | oT (a : Addr) (ks : List (List Key)) (l : List D)

/-- a thing of one's own, let go -/
def D.frz : D → D
  | .ol l => .lst l
  | .oi _ C ns l => .ins C ns l
  | .oK _ ks l => .dK ks l
  | .oT _ ks l => .dT ks l
  | d => d
def D.own : D → Bool
  | .ol _ => true | .oi _ _ _ _ => true | .oK _ _ _ => true | .oT _ _ _ => true
  | _ => false

/-- what is shared, and what stays true of it -/
abbrev Sh := Addr → Option (HO → Prop)
def fz (o : HO) : HO → Prop := fun u => u = o
theorem fz_inj {o u : HO} (h : fz o = fz u) : o = u := by
  have := congrFun h o
  have e : (o = o) = (o = u) := this
  exact e.mp rfl
/-- the pen: its list of cells at l (frozen), its four numbers -/
def penO (l : Addr) (a d c f : Int) : HO := .dK [(.inr "cells", .ref l), (.inr "at", .int a), (.inr "digits", .int d), (.inr "count", .int c), (.inr "fold", .int f)]
def penP (l : Addr) : HO → Prop := fun u => ∃ a d c f : Int, 0 ≤ a ∧ 0 ≤ d ∧ 0 ≤ f ∧ u = penO l a d c f

def Le (Z Z' : Sh) : Prop := ∀ a φ, Z a = some φ → Z' a = some φ
theorem Le.refl (Z : Sh) : Le Z Z := fun _ _ h => h
theorem Le.trans {Z Z1 Z2 : Sh} (a : Le Z Z1) (b : Le Z1 Z2) : Le Z Z2 := fun x φ h => b x φ (a x φ h)
def OkZ (H : Hp) (Z : Sh) : Prop := ∀ a φ, Z a = some φ → ∃ o, H a = some o ∧ φ o
theorem OkZ.none {H : Hp} {Z : Sh} (h : OkZ H Z) {a : Addr} (e : H a = none) : Z a = none := by
  cases q : Z a with
  | none => rfl
  | some φ =>
    obtain ⟨o, ho, _⟩ := h a φ q
    rw [e] at ho; cases ho
/-- neither a table of codes nor a code -/
def Nbo (o : HO) : Prop := (∀ ps, o ≠ .tbl ps) ∧ ∀ c q, o ≠ LamX.CodeO c q
/-- the mark of a table whose codes all bear the name q -/
def tabM (q : Str) : HO → Prop := fun o => (∃ ps, o = .tbl ps) ∨ o = .lst [.str q]
theorem tabM_inj {q q' : Str} (h : tabM q = tabM q') : q = q' := by
  have e := congrFun h (.lst [.str q])
  have k : tabM q' (.lst [.str q]) := e.mp (.inr rfl)
  rcases k with ⟨ps, k⟩ | k
  · cases k
  · cases k; rfl
theorem tabM_tbl {q : Str} (ps : Array Value) : tabM q (.tbl ps) := .inl ⟨ps, rfl⟩
/-- nothing stands there, or a table -/
def Fr (H : Hp) (l : Addr) : Prop := ∀ o, H l = some o → ∃ ps, o = .tbl ps
theorem Fr.of {H : Hp} {l : Addr} (h : H l = none) : Fr H l := fun o e => by rw [h] at e; cases e
theorem Fr.ne {H : Hp} {l a : Addr} {o : HO} (f : Fr H l) (h : H a = some o) (n : ∀ ps, o ≠ .tbl ps) : a ≠ l := fun e => by
  subst e
  obtain ⟨ps, z⟩ := f o h
  exact n ps z
/-- no table, and a code by itself alone -/
def Nt (φ : HO → Prop) : Prop := (∀ ps, ¬ φ (.tbl ps)) ∧ ∀ c q, φ (LamX.CodeO c q) → φ = fz (LamX.CodeO c q)
theorem Nt.fz {o : HO} (h : ∀ ps, o ≠ .tbl ps) : Nt (DL.fz o) := ⟨fun ps e => h ps (show HO.tbl ps = o from e).symm, fun c q e => by
  have e2 : LamX.CodeO c q = o := e
  rw [e2]⟩
theorem Nt.pen {l : Addr} : Nt (penP l) := ⟨fun ps ⟨_, _, _, _, _, _, _, e⟩ => (nomatch (show HO.tbl ps = HO.dK _ from e)), fun c q ⟨_, _, _, _, _, _, _, e⟩ => (nomatch (show HO.ext _ = HO.dK _ from e))⟩
/-- no table is shared but by its mark -/
def NoT (Z : Sh) : Prop := ∀ a φ, Z a = some φ → (∃ q, φ = tabM q) ∨ Nt φ
/-- the table of codes at P, marked, the codes shared -/
def TabZ (Z : Sh) (H : Hp) (P : Addr) (q : Str) : Prop := NoT Z ∧ Z P = some (tabM q) ∧ ∃ ps : Array Value, H P = some (.tbl ps) ∧ TriplesOk ps.toList ∧ ∀ (pos : Pos) (cv : Value), codeAmong pos ps.toList = some cv → ∃ c, cv = .ref c ∧ Z c = some (fz (LamX.CodeO c q))
theorem TabZ.le {Z Z' : Sh} {H : Hp} {P : Addr} {q : Str} (h : Le Z Z') (n : NoT Z') (t : TabZ Z H P q) : TabZ Z' H P q := by
  obtain ⟨_, z, ps, h1, h2, h3⟩ := t
  exact ⟨n, h _ _ z, ps, h1, h2, fun pos cv e => let ⟨c, e1, z⟩ := h3 pos cv e; ⟨c, e1, h _ _ z⟩⟩
theorem TabZ.at_ {Z : Sh} {H H' : Hp} {P : Addr} {q : Str} (t : TabZ Z H P q) (e : H' P = H P) : TabZ Z H' P q := by
  obtain ⟨n, z, ps, h1, h2, h3⟩ := t
  exact ⟨n, z, ps, e.trans h1, h2, h3⟩
theorem TabZ.some {Z : Sh} {H : Hp} {P : Addr} {q : Str} (t : TabZ Z H P q) : ∃ ps, H P = some (.tbl ps) := let ⟨_, _, ps, h, _⟩ := t; ⟨ps, h⟩
def shr (Z : Sh) (p : Addr) (φ : HO → Prop) : Sh := fun a => if a = p then some φ else Z a
theorem shr_same {Z : Sh} {p : Addr} {φ : HO → Prop} : shr Z p φ p = some φ := by unfold shr; rw [if_pos rfl]
theorem shr_ne {Z : Sh} {p a : Addr} {φ : HO → Prop} (h : a ≠ p) : shr Z p φ a = Z a := by unfold shr; rw [if_neg h]
theorem NoT.shr {Z : Sh} {p : Addr} {φ : HO → Prop} (n : NoT Z) (h : Nt φ) : NoT (shr Z p φ) := fun a ψ q => by
  by_cases ha : a = p
  · subst ha; rw [shr_same] at q; cases q; exact .inr h
  · rw [shr_ne ha] at q; exact n a ψ q
theorem shr_tab {Z : Sh} {p P : Addr} {φ : HO → Prop} {q : Str} (h : Nt φ) (z : shr Z p φ P = some (tabM q)) : P ≠ p ∧ Z P = some (tabM q) := by
  by_cases hp : P = p
  · subst hp; rw [shr_same] at z; cases z; exact absurd (tabM_tbl #[]) (h.1 #[])
  · rw [shr_ne hp] at z; exact ⟨hp, z⟩
/-- a step: shared things stay, what is not shared is let alone -/
structure Stp (H : Hp) (Z : Sh) (H' : Hp) (Z' : Sh) : Prop where
  le : Le Z Z'
  ok : OkZ H' Z'
  keep : ∀ a o, H a = some o → Z a = none → Nbo o → H' a = some o ∧ Z' a = none
  tab : ∀ P q, TabZ Z H P q → TabZ Z' H' P q
  tb : ∀ P q, Z' P = some (tabM q) → Z P = some (tabM q)
  stays : ∀ a o, H a = some o → (∀ ps, o ≠ .tbl ps) → ∃ u, H' a = some u ∧ ∀ ps, u ≠ .tbl ps
theorem Stp.refl {H : Hp} {Z : Sh} (h : OkZ H Z) : Stp H Z H Z := ⟨Le.refl Z, h, fun _ _ a b _ => ⟨a, b⟩, fun _ _ t => t, fun _ _ z => z, fun _ o e n => ⟨o, e, n⟩⟩
theorem Stp.trans {H H1 H2 : Hp} {Z Z1 Z2 : Sh} (a : Stp H Z H1 Z1) (b : Stp H1 Z1 H2 Z2) : Stp H Z H2 Z2 :=
  ⟨a.le.trans b.le, b.ok, fun x o h z n => let ⟨h1, z1⟩ := a.keep x o h z n; b.keep x o h1 z1 n, fun P q t => b.tab P q (a.tab P q t), fun P q z => a.tb P q (b.tb P q z), fun x o h n => let ⟨u, hu, nu⟩ := a.stays x o h n; b.stays x u hu nu⟩
theorem Stp.freeF {H H' : Hp} {Z Z' : Sh} (s : Stp H Z H' Z') {a : Addr} (h : Fr H' a) : Fr H a := fun o e => by
  by_cases t : ∃ ps, o = .tbl ps
  · exact t
  · obtain ⟨u, hu, nu⟩ := s.stays a o e fun ps z => t ⟨ps, z⟩
    obtain ⟨ps, z⟩ := h u hu
    exact absurd z (nu ps)
theorem Stp.free {H H' : Hp} {Z Z' : Sh} (s : Stp H Z H' Z') (ok : OkZ H Z) {a : Addr} (h : H' a = Option.none) : Fr H a := s.freeF (.of h)
/-- something new that is nobody's -/
theorem Stp.new {H : Hp} {Z : Sh} {p : Addr} {o : HO} (ok : OkZ H Z) (hp : H p = none) : Stp H Z (upd H p o) Z := by
  refine ⟨Le.refl Z, fun a φ h => ?_, fun a u h z _ => ⟨?_, z⟩, fun P q t => t.at_ ?_, fun _ _ z => z, fun a u h n => ⟨u, ?_, n⟩⟩
  · obtain ⟨u, hu, q⟩ := ok a φ h
    exact ⟨u, by rw [upd_ne (ne_of_none hu hp)]; exact hu, q⟩
  · rw [upd_ne (ne_of_none h hp)]; exact h
  · obtain ⟨ps, h1⟩ := t.some
    rw [upd_ne (ne_of_none h1 hp)]
  · rw [upd_ne (ne_of_none h hp)]; exact h
theorem Le.shr {Z : Sh} {p : Addr} {φ : HO → Prop} (h : Z p = none) : Le Z (shr Z p φ) := fun a ψ q => by
  rw [shr_ne (fun e => by rw [e, h] at q; cases q)]; exact q
/-- something new, shared at once -/
theorem Stp.newS {H : Hp} {Z : Sh} {p : Addr} {o : HO} {φ : HO → Prop} (ok : OkZ H Z) (hp : H p = none) (h : φ o) (nt : Nt φ := by exact DL.Nt.fz (by intro ps e; cases e)) : Stp H Z (upd H p o) (shr Z p φ) := by
  have zp := ok.none hp
  refine ⟨Le.shr zp, fun a ψ q => ?_, fun a u e z _ => ?_, fun P q t => ?_, fun P q z => (shr_tab nt z).2, fun a u e n => ⟨u, ?_, n⟩⟩
  · by_cases ha : a = p
    · subst ha; rw [shr_same] at q; cases q; exact ⟨o, upd_same, h⟩
    · rw [shr_ne ha] at q
      obtain ⟨u, hu, r⟩ := ok a ψ q
      exact ⟨u, by rw [upd_ne ha]; exact hu, r⟩
  · have ha : a ≠ p := ne_of_none e hp
    exact ⟨by rw [upd_ne ha]; exact e, by rw [shr_ne ha]; exact z⟩
  · obtain ⟨ps, h1⟩ := t.some
    have ha : P ≠ p := ne_of_none h1 hp
    exact (t.le (Le.shr zp) (t.1.shr nt)).at_ (by rw [upd_ne ha])
  · rw [upd_ne (ne_of_none e hp)]; exact e
/-- what is one's own is shared now; the step came from a heap that did not know it -/
theorem Stp.share {H H' : Hp} {Z Z' : Sh} {p : Addr} {o : HO} {φ : HO → Prop} (s : Stp H Z H' Z') (hp : Fr H p) (zp : Z' p = none) (ho : H' p = some o) (h : φ o) (nt : Nt φ) : Stp H Z H' (shr Z' p φ) := by
  refine ⟨s.le.trans (Le.shr zp), fun a ψ q => ?_, fun a u e z n => ?_, fun P q t => (s.tab P q t).le (Le.shr zp) ((s.tab P q t).1.shr nt), fun P q z => s.tb P q (shr_tab nt z).2, s.stays⟩
  · by_cases ha : a = p
    · subst ha; rw [shr_same] at q; cases q; exact ⟨o, ho, h⟩
    · rw [shr_ne ha] at q; exact s.ok a ψ q
  · have ha : a ≠ p := hp.ne e n.1
    obtain ⟨h1, z1⟩ := s.keep a u e z n
    exact ⟨h1, by rw [shr_ne ha]; exact z1⟩
/-- one's own thing changes -/
theorem Stp.own {H H' : Hp} {Z Z' : Sh} {p : Addr} {o : HO} (s : Stp H Z H' Z') (hp : Fr H p) (zp : Z' p = none) : Stp H Z (upd H' p o) Z' := by
  refine ⟨s.le, fun a ψ q => ?_, fun a u e z n => ?_, fun P q t => ?_, s.tb, fun a u e n => ?_⟩
  · have ha : a ≠ p := fun e => by rw [e, zp] at q; cases q
    rw [upd_ne ha]; exact s.ok a ψ q
  · have ha : a ≠ p := hp.ne e n.1
    rw [upd_ne ha]; exact s.keep a u e z n
  · have ha : P ≠ p := fun e => by
      have z := s.le _ _ t.2.1
      rw [e, zp] at z; cases z
    exact (s.tab P q t).at_ (by rw [upd_ne ha])
  · have ha : a ≠ p := hp.ne e n
    rw [upd_ne ha]; exact s.stays a u e n

/-! ### what a value stands for -/
mutual
inductive Rp (K : PySem.W.Frag) (Z : Sh) : V → D → Prop
  | non : Rp K Z .non .non
  | bl {b : Bool} : Rp K Z (.bl b) (.bl b)
  | int {i : Int} : Rp K Z (.int i) (.int i)
  | str {x : Str} : Rp K Z (.str x) (.str x)
  | ty {n : String} : Rp K Z (.ty n) (.ty n)
  | tup {a : Addr} {vs : List V} {ds : List D} : Z a = some (fz (.tup vs)) → Rps K Z vs ds → Rp K Z (.ref a) (.tup ds)
  | lst {a : Addr} {vs : List V} {ds : List D} : Z a = some (fz (.lst vs)) → Rps K Z vs ds → Rp K Z (.ref a) (.lst ds)
  | lsA {a : Addr} {vs : List V} {ds : List D} : Z a = some (fz (.lst vs)) → Rps K Z vs ds → Rp K Z (.ref a) (.lsA a ds)
  | ins {a C dx : Addr} {ns : List Str} {vs : List V} {ds : List D} : Z a = some (fz (.ins C dx (ns.zip vs))) → ns.length = vs.length → Rps K Z vs ds → Rp K Z (.ref a) (.ins C ns ds)
  | adr {a : Addr} : Rp K Z (.ref a) (.adr a)
  | scrK {a : Addr} {ns : List Int} : (∃ (o : Obj) (its : Array Value) (n : Nat), K.lookup a = some o ∧ o.cls = .type "list" ∧ o.dict = none ∧ o.data = .seq its n ∧ its.size ≤ sizeLine ∧ Vals (ns.map V.int) its.toList) → Rp K Z (.ref a) (.scr ns)
  | scrL {a : Addr} {ns : List Int} : Z a = some (fz (.lst (ns.map V.int))) → Rp K Z (.ref a) (.scr ns)
  | scrF {a : Addr} {ns : List Int} {o : Obj} : Z a = some (fz (.frz o (.lst (ns.map V.int)))) → Rp K Z (.ref a) (.scr ns)
  | dK {a : Addr} {ks : List Key} {vs : List V} {ds : List D} : Z a = some (fz (.dK (ks.zip vs))) → ks.length = vs.length → Rps K Z vs ds → Rp K Z (.ref a) (.dK ks ds)
  | dT {a : Addr} {ks : List (List Key)} {vs : List V} {ds : List D} : Z a = some (fz (.dT (ks.zip vs))) → ks.length = vs.length → Rps K Z vs ds → Rp K Z (.ref a) (.dT ks ds)
  | xc {a C dd : Addr} {ns : List Str} {vs : List V} {ds : List D} : Z dd = some (fz (.xd (ns.zip vs))) → ns.length = vs.length → Rps K Z vs ds → Rp K Z (.ref a) (.xc a C dd ns ds)
  | pen {p l : Addr} {ns : List Int} : Z p = some (penP l) → Z l = some (fz (.lst (ns.map V.int))) → Rp K Z (.ref p) .pen
inductive Rps (K : PySem.W.Frag) (Z : Sh) : List V → List D → Prop
  | nil : Rps K Z [] []
  | cons {v : V} {d : D} {vs : List V} {ds : List D} : Rp K Z v d → Rps K Z vs ds → Rps K Z (v :: vs) (d :: ds)
end
section
variable {K : PySem.W.Frag} {Z Z' : Sh}
mutual
theorem Rp.le (h : Le Z Z') : ∀ {v : V} {d : D}, Rp K Z v d → Rp K Z' v d
  | _, _, .non => .non
  | _, _, .bl => .bl
  | _, _, .int => .int
  | _, _, .str => .str
  | _, _, .ty => .ty
  | _, _, .tup z r => .tup (h _ _ z) (Rps.le h r)
  | _, _, .lst z r => .lst (h _ _ z) (Rps.le h r)
  | _, _, .lsA z r => .lsA (h _ _ z) (Rps.le h r)
  | _, _, .ins z e r => .ins (h _ _ z) e (Rps.le h r)
  | _, _, .adr => .adr
  | _, _, .scrK z => .scrK z
  | _, _, .scrL z => .scrL (h _ _ z)
  | _, _, .scrF z => .scrF (h _ _ z)
  | _, _, .dK z e r => .dK (h _ _ z) e (Rps.le h r)
  | _, _, .dT z e r => .dT (h _ _ z) e (Rps.le h r)
  | _, _, .xc z e r => .xc (h _ _ z) e (Rps.le h r)
  | _, _, .pen z y => .pen (h _ _ z) (h _ _ y)
theorem Rps.le (h : Le Z Z') : ∀ {vs : List V} {ds : List D}, Rps K Z vs ds → Rps K Z' vs ds
  | _, _, .nil => .nil
  | _, _, .cons r t => .cons (Rp.le h r) (Rps.le h t)
end
theorem Rps.length : ∀ {vs : List V} {ds : List D}, Rps K Z vs ds → vs.length = ds.length
  | _, _, .nil => rfl
  | _, _, .cons _ t => congrArg (· + 1) (Rps.length t)
theorem Rps.get : ∀ {vs : List V} {ds : List D} {i : Nat} {d : D}, Rps K Z vs ds → ds[i]? = some d → ∃ v, vs[i]? = some v ∧ Rp K Z v d
  | _, _, _, _, .nil, e => by simp at e
  | _, _, 0, _, .cons r _, e => by simp at e; subst e; exact ⟨_, rfl, r⟩
  | _, _, i + 1, d, .cons _ t, e => by
    obtain ⟨v, h1, h2⟩ := Rps.get (i := i) (d := d) t (by simpa using e)
    exact ⟨v, by simpa using h1, h2⟩
theorem Rps.getV : ∀ {vs : List V} {ds : List D} {i : Nat} {v : V}, Rps K Z vs ds → vs[i]? = some v → ∃ d, ds[i]? = some d ∧ Rp K Z v d
  | _, _, _, _, .nil, e => by simp at e
  | _, _, 0, _, .cons r _, e => by simp at e; subst e; exact ⟨_, rfl, r⟩
  | _, _, i + 1, v, .cons _ t, e => by
    obtain ⟨d, h1, h2⟩ := Rps.getV (i := i) (v := v) t (by simpa using e)
    exact ⟨d, by simpa using h1, h2⟩
theorem Rps.append : ∀ {vs ws : List V} {ds es : List D}, Rps K Z vs ds → Rps K Z ws es → Rps K Z (vs ++ ws) (ds ++ es)
  | _, _, _, _, .nil, s => s
  | _, _, _, _, .cons r t, s => .cons r (Rps.append t s)
theorem Rps.set {v : V} {d : D} (r : Rp K Z v d) : ∀ {vs : List V} {ds : List D} (i : Nat), Rps K Z vs ds → Rps K Z (vs.set i v) (ds.set i d)
  | _, _, _, .nil => .nil
  | _, _, 0, .cons _ t => .cons r t
  | _, _, i + 1, .cons q t => .cons q (Rps.set r i t)
theorem Rps.take : ∀ {vs : List V} {ds : List D} (n : Nat), Rps K Z vs ds → Rps K Z (vs.take n) (ds.take n)
  | _, _, 0, _ => .nil
  | _, _, _ + 1, .nil => .nil
  | _, _, n + 1, .cons r t => .cons r (Rps.take n t)
theorem Rps.drop : ∀ {vs : List V} {ds : List D} (n : Nat), Rps K Z vs ds → Rps K Z (vs.drop n) (ds.drop n)
  | _, _, 0, r => r
  | _, _, _ + 1, .nil => .nil
  | _, _, n + 1, .cons _ t => Rps.drop n t
theorem Rps.ints : ∀ (ns : List Int), Rps K Z (ns.map V.int) (ns.map D.int)
  | [] => .nil
  | n :: ns => .cons .int (Rps.ints ns)
theorem Rps.of_ints : ∀ {vs : List V} {ns : List Int}, Rps K Z vs (ns.map D.int) → vs = ns.map V.int
  | _, [], .nil => rfl
  | _, n :: ns, .cons r t => by cases r; rw [Rps.of_ints t]; rfl
theorem Rps.lookup : ∀ {ns : List Str} {vs : List V} {ds : List D} {f : Str} {d : D}, Rps K Z vs ds → (ns.zip ds).lookup f = some d → ∃ v, (ns.zip vs).lookup f = some v ∧ Rp K Z v d
  | [], _, _, _, _, _, e => by simp [List.lookup] at e
  | _ :: _, _, _, _, _, .nil, e => by simp [List.lookup] at e
  | n :: ns, _, _, f, d, .cons r t, e => by
    simp only [List.zip_cons_cons, List.lookup_cons] at e ⊢
    cases q : (f == n) with
    | true => rw [q] at e; cases e; exact ⟨_, rfl, r⟩
    | false => rw [q] at e; exact Rps.lookup t e
theorem Rps.lookup_none : ∀ {ns : List Str} {vs : List V} {f : Str}, f ∉ ns → (ns.zip vs).lookup f = none
  | [], _, _, _ => by simp [List.lookup]
  | _ :: _, [], _, _ => by simp [List.lookup]
  | n :: ns, v :: vs, f, h => by
    simp only [List.zip_cons_cons, List.lookup_cons]
    have h1 : (f == n) = false := by
      simp only [beq_eq_false_iff_ne]; exact fun e => h (e ▸ List.mem_cons_self)
    rw [h1]
    exact Rps.lookup_none fun m => h (List.mem_cons_of_mem _ m)
end

/-- what a thing of one's own stands for -/
inductive Ow (K : PySem.W.Frag) (Z : Sh) (a : Addr) : HO → D → Prop
  | lst {vs : List V} {ds : List D} : Rps K Z vs ds → Ow K Z a (.lst vs) (.ol ds)
  | ins {C dx : Addr} {ns : List Str} {vs : List V} {ds : List D} : ns.length = vs.length → Rps K Z vs ds → Ow K Z a (.ins C dx (ns.zip vs)) (.oi a C ns ds)
  | dK {ks : List Key} {vs : List V} {ds : List D} : ks.length = vs.length → Rps K Z vs ds → Ow K Z a (.dK (ks.zip vs)) (.oK a ks ds)
  | dT {ks : List (List Key)} {vs : List V} {ds : List D} : ks.length = vs.length → Rps K Z vs ds → Ow K Z a (.dT (ks.zip vs)) (.oT a ks ds)
theorem Ow.le {K : PySem.W.Frag} {Z Z' : Sh} {a : Addr} {o : HO} {d : D} (h : Le Z Z') (r : Ow K Z a o d) : Ow K Z' a o d := by
  cases r with
  | lst r => exact .lst (r.le h)
  | ins e r => exact .ins e (r.le h)
  | dK e r => exact .dK e (r.le h)
  | dT e r => exact .dT e (r.le h)
theorem Ow.nbo {K : PySem.W.Frag} {Z : Sh} {a : Addr} {o : HO} {d : D} (r : Ow K Z a o d) : Nbo o := by
  cases r <;> exact ⟨fun ps e => (nomatch e), fun c q e => (nomatch (show _ = HO.ext _ from e))⟩
theorem Ow.own {K : PySem.W.Frag} {Z : Sh} {a : Addr} {o : HO} {d : D} (r : Ow K Z a o d) : d.own = true := by cases r <;> rfl
theorem Ow.frz {K : PySem.W.Frag} {Z : Sh} {o : HO} {d : D} {a : Addr} (r : Ow K Z a o d) (h : Z a = some (fz o)) : Rp K Z (.ref a) d.frz := by
  cases r with
  | lst r => exact .lst h r
  | ins e r => exact .ins h e r
  | dK e r => exact .dK h e r
  | dT e r => exact .dT h e r
/-- a value of one's own or frozen: a result behind a step from H -/
def Rr (K : PySem.W.Frag) (H H' : Hp) (Z' : Sh) (v : V) (d : D) : Prop :=
  Rp K Z' v d ∨ ∃ l o, v = .ref l ∧ Fr H l ∧ Z' l = none ∧ H' l = some o ∧ Ow K Z' l o d

/-! ### slots -/
abbrev Dl := List (Option D)
structure Slots (K : PySem.W.Frag) (H0 : Hp) (Z0 : Sh) (σ : L2.St) (H : Hp) (Z : Sh) (Δ : Dl) : Prop where
  ok0 : OkZ H0 Z0
  stp : Stp H0 Z0 H Z
  len : σ.length = Δ.length
  at_ : ∀ (i : Nat) (d : D), Δ[i]? = some (some d) → ∃ v, σ[i]? = some (some v) ∧ Rr K H0 H Z v d
  sep : ∀ (i j : Nat) (d e : D) (l : Addr), Δ[i]? = some (some d) → Δ[j]? = some (some e) → d.own = true → e.own = true → σ[i]? = some (some (.ref l)) → σ[j]? = some (some (.ref l)) → i = j
section
variable {K : PySem.W.Frag} {H0 : Hp} {Z0 : Sh} {σ : L2.St} {H H' : Hp} {Z Z' : Sh} {Δ : Dl}
theorem Rr.step {v : V} {d : D} (h : Rr K H0 H Z v d) (s : Stp H Z H' Z') : Rr K H0 H' Z' v d := by
  rcases h with h | ⟨l, o, e2, h0, z, hl, r⟩
  · exact .inl (h.le s.le)
  · obtain ⟨h1, z1⟩ := s.keep l _ hl z r.nbo
    exact .inr ⟨l, o, e2, h0, z1, h1, r.le s.le⟩
theorem Slots.step (h : Slots K H0 Z0 σ H Z Δ) (s : Stp H Z H' Z') : Slots K H0 Z0 σ H' Z' Δ :=
  ⟨h.ok0, h.stp.trans s, h.len, fun i d e => let ⟨v, e1, r⟩ := h.at_ i d e; ⟨v, e1, r.step s⟩, h.sep⟩
theorem Slots.ok (h : Slots K H0 Z0 σ H Z Δ) : OkZ H Z := h.stp.ok
theorem Slots.get (h : Slots K H0 Z0 σ H Z Δ) {i : Nat} {d : D} (e : Δ[i]? = some (some d)) (ho : d.own = false) : ∃ v, σ[i]? = some (some v) ∧ Rp K Z v d := by
  obtain ⟨v, e1, r⟩ := h.at_ i d e
  rcases r with r | ⟨l, o, e2, _, _, _, r⟩
  · exact ⟨v, e1, r⟩
  · rw [r.own] at ho; cases ho
theorem not_own {v : V} {d : D} (r : Rp K Z v d) : d.own = false := by cases r <;> rfl
theorem Slots.getO (h : Slots K H0 Z0 σ H Z Δ) {i : Nat} {d : D} (e : Δ[i]? = some (some d)) (ho : d.own = true) : ∃ l o, σ[i]? = some (some (.ref l)) ∧ Fr H0 l ∧ Z l = none ∧ H l = some o ∧ Ow K Z l o d := by
  obtain ⟨v, e1, r⟩ := h.at_ i _ e
  rcases r with r | ⟨l, o, e3, r⟩
  · rw [not_own r] at ho; cases ho
  · subst e3; exact ⟨l, o, e1, r⟩
theorem setAt {α : Type} {l : List α} {i j : Nat} {x y : α} (q : (l.set i x)[j]? = some y) : (i = j ∧ y = x ∧ i < l.length) ∨ (i ≠ j ∧ l[j]? = some y) := by
  by_cases hj : i = j
  · subst hj
    have hi : i < l.length := by have := (List.getElem?_eq_some_iff.mp q).1; simpa using this
    rw [List.getElem?_set_self hi] at q
    cases q; exact .inl ⟨rfl, rfl, hi⟩
  · rw [List.getElem?_set_ne hj] at q
    exact .inr ⟨hj, q⟩
/-- a slot is set to a frozen value -/
theorem Slots.set (h : Slots K H0 Z0 σ H Z Δ) (i : Nat) {v : V} {d : D} (r : Rp K Z v d) : Slots K H0 Z0 (σ.set i (some v)) H Z (Δ.set i (some d)) := by
  refine ⟨h.ok0, h.stp, by simp [h.len], fun j e q => ?_, fun j j' d1 d2 l q1 q2 o1 o2 s1 s2 => ?_⟩
  · rcases setAt q with ⟨hj, e1, hi⟩ | ⟨hj, q⟩
    · subst hj; cases e1
      exact ⟨v, by rw [List.getElem?_set_self (by rw [h.len]; exact hi)], .inl r⟩
    · obtain ⟨v', e1, r'⟩ := h.at_ j e q
      exact ⟨v', by rw [List.getElem?_set_ne hj]; exact e1, r'⟩
  · have ne : ∀ {m : Nat} {dd : D}, (Δ.set i (some d))[m]? = some (some dd) → dd.own = true → i ≠ m ∧ Δ[m]? = some (some dd) := fun {m dd} q o => by
      rcases setAt q with ⟨hj, e1, hi⟩ | p
      · cases e1; rw [not_own r] at o; cases o
      · exact p
    obtain ⟨n1, p1⟩ := ne q1 o1
    obtain ⟨n2, p2⟩ := ne q2 o2
    rw [List.getElem?_set_ne n1] at s1
    rw [List.getElem?_set_ne n2] at s2
    exact h.sep j j' d1 d2 l p1 p2 o1 o2 s1 s2
/-- .. to a new thing of one's own -/
theorem Slots.setO (h : Slots K H0 Z0 σ H Z Δ) (s : Stp H Z H' Z') (i : Nat) {v : V} {d : D} (r : Rr K H H' Z' v d) : Slots K H0 Z0 (σ.set i (some v)) H' Z' (Δ.set i (some d)) := by
  rcases r with r | ⟨l, o, rfl, hl, zl, hl', r⟩
  · exact (h.step s).set i r
  have h' := h.step s
  have fresh0 : Fr H0 l := h.stp.freeF hl
  refine ⟨h.ok0, h'.stp, by simp [h.len], fun j e q => ?_, fun j j' d1 d2 a q1 q2 o1 o2 s1 s2 => ?_⟩
  · rcases setAt q with ⟨hj, e1, hi⟩ | ⟨hj, q⟩
    · subst hj; cases e1
      exact ⟨_, by rw [List.getElem?_set_self (by rw [h.len]; exact hi)], .inr ⟨l, o, rfl, fresh0, zl, hl', r⟩⟩
    · obtain ⟨v', e1, r'⟩ := h'.at_ j e q
      exact ⟨v', by rw [List.getElem?_set_ne hj]; exact e1, r'⟩
  · have old : ∀ {m : Nat} {dd : D} {b : Addr}, Δ[m]? = some (some dd) → dd.own = true → σ[m]? = some (some (.ref b)) → b ≠ l := fun {m dd b} q o e z => by
      obtain ⟨l', o', e1, _, _, hb, ow⟩ := h.getO q o
      rw [e] at e1; cases e1
      exact hl.ne hb ow.nbo.1 z
    have hl2 : ∀ {m : Nat} {b : Addr}, i = m → (σ.set i (some (V.ref l)))[m]? = some (some (.ref b)) → b = l := fun {m b} e q => by
      rcases setAt q with ⟨_, e1, _⟩ | ⟨n, _⟩
      · cases e1; rfl
      · exact absurd e n
    have hs : ∀ {m : Nat} {b : Addr}, i ≠ m → (σ.set i (some (V.ref l)))[m]? = some (some (.ref b)) → σ[m]? = some (some (.ref b)) := fun {m b} e q => by
      rw [List.getElem?_set_ne e] at q; exact q
    rcases setAt q1 with ⟨e1, _, _⟩ | ⟨n1, p1⟩ <;> rcases setAt q2 with ⟨e2, _, _⟩ | ⟨n2, p2⟩
    · rw [← e1, ← e2]
    · exact absurd (hl2 e1 s1) (old p2 o2 (hs n2 s2))
    · exact absurd (hl2 e2 s2) (old p1 o1 (hs n1 s1))
    · exact h.sep j j' d1 d2 a p1 p2 o1 o2 (hs n1 s1) (hs n2 s2)
/-- what a slot holds is forgotten -/
theorem Slots.drop (h : Slots K H0 Z0 σ H Z Δ) (i : Nat) : Slots K H0 Z0 σ H Z (Δ.set i none) := by
  have g : ∀ {m : Nat} {d : D}, (Δ.set i none)[m]? = some (some d) → Δ[m]? = some (some d) := fun {m d} q => by
    rcases setAt q with ⟨_, e, _⟩ | ⟨_, p⟩
    · cases e
    · exact p
  exact ⟨h.ok0, h.stp, by simp [h.len], fun j e q => h.at_ j e (g q), fun j j' d1 d2 l q1 q2 => h.sep j j' d1 d2 l (g q1) (g q2)⟩
/-- a thing of one's own is let go -/
theorem Slots.lets (h : Slots K H0 Z0 σ H Z Δ) {i : Nat} {d : D} (e : Δ[i]? = some (some d)) (ho : d.own = true) : ∃ l o, Z l = none ∧ H l = some o ∧ Slots K H0 Z0 σ H (shr Z l (fz o)) (Δ.set i (some d.frz)) := by
  obtain ⟨l, o, e1, h0, zl, hl, r⟩ := h.getO e ho
  have le : Le Z (shr Z l (fz o)) := Le.shr zl
  refine ⟨l, o, zl, hl, h.ok0, h.stp.share h0 zl hl rfl (.fz r.nbo.1), by simp [h.len], fun j d' q => ?_, fun j j' d1 d2 a q1 q2 o1 o2 s1 s2 => ?_⟩
  · rcases setAt q with ⟨hj, e2, _⟩ | ⟨hj, q⟩
    · subst hj; cases e2
      exact ⟨_, e1, .inl ((r.le le).frz shr_same)⟩
    · obtain ⟨v', e2, r'⟩ := h.at_ j d' q
      refine ⟨v', e2, ?_⟩
      rcases r' with r' | ⟨l', o', rfl, h0', z', hl', r'⟩
      · exact .inl (r'.le le)
      · have ne : l' ≠ l := fun z => hj (h.sep i j _ _ l e q ho r'.own e1 (by rw [← z]; exact e2))
        exact .inr ⟨l', o', rfl, h0', by rw [shr_ne ne]; exact z', hl', r'.le le⟩
  · have g : ∀ {m : Nat} {d' : D}, (Δ.set i (some d.frz))[m]? = some (some d') → d'.own = true → Δ[m]? = some (some d') := fun {m d'} q o' => by
      rcases setAt q with ⟨_, e2, _⟩ | ⟨_, p⟩
      · cases e2
        have : d.frz.own = false := by cases d <;> first | rfl | cases ho
        rw [this] at o'; cases o'
      · exact p
    exact h.sep j j' d1 d2 a (g q1 o1) (g q2 o2) o1 o2 s1 s2
theorem Slots.letsO (h : Slots K H0 Z0 σ H Z Δ) {i : Nat} {d : D} (e : Δ[i]? = some (some d)) (ho : d.own = true) : ∃ l o, Z l = none ∧ H l = some o ∧ Slots K H0 Z0 σ H (shr Z l (fz o)) (Δ.set i (some d.frz)) ∧ Ow K Z l o d := by
  obtain ⟨l, o, e1, h0, zl, hl, r⟩ := h.getO e ho
  have le : Le Z (shr Z l (fz o)) := Le.shr zl
  refine ⟨l, o, zl, hl, ⟨h.ok0, h.stp.share h0 zl hl rfl (.fz r.nbo.1), by simp [h.len], fun j d' q => ?_, fun j j' d1 d2 a q1 q2 o1 o2 s1 s2 => ?_⟩, r⟩
  · rcases setAt q with ⟨hj, e2, _⟩ | ⟨hj, q⟩
    · subst hj; cases e2
      exact ⟨_, e1, .inl ((r.le le).frz shr_same)⟩
    · obtain ⟨v', e2, r'⟩ := h.at_ j d' q
      refine ⟨v', e2, ?_⟩
      rcases r' with r' | ⟨l', o', rfl, h0', z', hl', r'⟩
      · exact .inl (r'.le le)
      · have ne : l' ≠ l := fun z => hj (h.sep i j _ _ l e q ho r'.own e1 (by rw [← z]; exact e2))
        exact .inr ⟨l', o', rfl, h0', by rw [shr_ne ne]; exact z', hl', r'.le le⟩
  · have g : ∀ {m : Nat} {d' : D}, (Δ.set i (some d.frz))[m]? = some (some d') → d'.own = true → Δ[m]? = some (some d') := fun {m d'} q o' => by
      rcases setAt q with ⟨_, e2, _⟩ | ⟨_, p⟩
      · cases e2
        have : d.frz.own = false := by cases d <;> first | rfl | cases ho
        rw [this] at o'; cases o'
      · exact p
    exact h.sep j j' d1 d2 a (g q1 o1) (g q2 o2) o1 o2 s1 s2
theorem Slots.freeze (h : Slots K H0 Z0 σ H Z Δ) {i : Nat} {d : D} (e : Δ[i]? = some (some d)) (ho : d.own = true) : ∃ Z', Le Z Z' ∧ Slots K H0 Z0 σ H Z' (Δ.set i (some d.frz)) :=
  let ⟨_, _, zl, _, s⟩ := h.lets e ho; ⟨_, Le.shr zl, s⟩
/-- a thing of one's own changes -/
theorem Slots.put (h : Slots K H0 Z0 σ H Z Δ) {i : Nat} {d d' : D} {l : Addr} {o : HO} (e : Δ[i]? = some (some d)) (ho : d.own = true) (el : σ[i]? = some (some (.ref l))) (r : Ow K Z l o d') :
    Slots K H0 Z0 σ (upd H l o) Z (Δ.set i (some d')) := by
  obtain ⟨l', o', e1, h0, zl, hl, _⟩ := h.getO e ho
  rw [el] at e1; cases e1
  refine ⟨h.ok0, h.stp.own h0 zl, by simp [h.len], fun j dd q => ?_, fun j j' d1 d2 a q1 q2 o1 o2 s1 s2 => ?_⟩
  · rcases setAt q with ⟨hj, e2, _⟩ | ⟨hj, q⟩
    · subst hj; cases e2
      exact ⟨_, el, .inr ⟨l, o, rfl, h0, zl, upd_same, r⟩⟩
    · obtain ⟨v', e2, r'⟩ := h.at_ j dd q
      refine ⟨v', e2, ?_⟩
      rcases r' with r' | ⟨l', o', rfl, h0', z', hl', r'⟩
      · exact .inl r'
      · have ne : l' ≠ l := fun z => hj (h.sep i j _ _ l e q ho r'.own el (by rw [← z]; exact e2))
        exact .inr ⟨l', o', rfl, h0', z', by rw [upd_ne ne]; exact hl', r'⟩
  · have g : ∀ {m : Nat} {dd : D}, (Δ.set i (some d'))[m]? = some (some dd) → dd.own = true → ∃ d'', Δ[m]? = some (some d'') ∧ d''.own = true := fun {m dd} q o => by
      rcases setAt q with ⟨e2, _, _⟩ | ⟨_, p⟩
      · subst e2; exact ⟨_, e, ho⟩
      · exact ⟨dd, p, o⟩
    obtain ⟨d1', q1, o1⟩ := g q1 o1
    obtain ⟨d2', q2, o2⟩ := g q2 o2
    exact h.sep j j' d1' d2' a q1 q2 o1 o2 s1 s2
end
end DL
end
section
set_option Elab.async false
set_option linter.all false
set_option maxRecDepth 100000
set_option maxHeartbeats 4000000
/-! DL1: the judgements over data, and their rules. -/
namespace DL
open PySem PySem.Spec PyProof.Rows L2

/-- an exception of a class of one's own: its class, its fields -/
structure XD where
  C : Addr
  ns : List Str
  ds : List D
/-- tables of codes: all that are marked; the def's own code object, its table, the name that its lambdas' codes bear -/
structure Lm where
  T : List (Addr × Str)
  me : Option (Addr × Addr × Str)
def TabsZ (T : List (Addr × Str)) (Z : Sh) (H : Hp) : Prop := T ≠ [] → (∀ p ∈ T, TabZ Z H p.1 p.2) ∧ ∀ P q, Z P = some (tabM q) → (P, q) ∈ T
theorem TabsZ.step {T : List (Addr × Str)} {H H' : Hp} {Z Z' : Sh} (t : TabsZ T Z H) (s : Stp H Z H' Z') : TabsZ T Z' H' := fun n => ⟨fun p hp => s.tab _ _ ((t n).1 p hp), fun P q z => (t n).2 P q (s.tb P q z)⟩
theorem TabsZ.nil {Z : Sh} {H : Hp} : TabsZ [] Z H := fun n => absurd rfl n
/-- where a text stands: the program's facts, the names by slot, the scope, the room, what may be let out -/
structure Cf where
  P : Program
  w : World
  K : PySem.W.Frag
  mg : Str → Option Value
  base : Heap
  N : List Str
  sc : Scope
  k : Nat
  W : XD → Prop
  /-- the names that may be stored here -/
  st : Str → Bool := fun _ => true
  /-- within an except suite: the exception, its class, its dict -/
  hot : Option (Addr × Addr × Addr) := none
  /-- the tables of codes -/
  lam : Option Lm := none
def RX (K : PySem.W.Frag) (Z : Sh) (H : Hp) (cls : Value) (d : Option Addr) (x : XD) : Prop :=
  cls = .ref x.C ∧ ∃ dd vs, d = some dd ∧ Z dd = some (fz (.xd (x.ns.zip vs))) ∧ x.ns.length = vs.length ∧ Rps K Z vs x.ds
def liftX (K : PySem.W.Frag) (W : XD → Prop) (H0 : Hp) (Z0 : Sh) : WX := fun cls d _ H => ∃ Z x, Stp H0 Z0 H Z ∧ RX K Z H cls d x ∧ W x
structure CtxOk (c : Cf) (H0 : Hp) (Z0 : Sh) (X : Cx) : Prop where
  P : X.prog = c.P
  w : X.w = c.w
  K : X.K = c.K
  mg : X.mg = c.mg
  base : X.base = c.base
  N : X.N = c.N
  sc : X.env.scope = c.sc
  calm : c.hot = none → X.calm = true
  su : ∀ a C dd, c.hot = some (a, C, dd) → ∃ (X0 : Cx) (oe : Obj) (pn : List (Addr × Obj)), X = X0.suite a ((a, oe) :: pn) ∧ Zc (.ref C) (some dd) oe ∧ ∃ vs, oe.data = .fields vs
  lm : ∀ L, c.lam = some L → (X.A.guards = some [] ∧ X.A.units + 100 < cLine) ∧ TabsZ L.T Z0 H0 ∧ ∀ c0 P q, L.me = some (c0, P, q) → X.env.code = .ref c0 ∧ X.env.qual ++ "<lambda>" = q ∧ LamX.TabB X.base X.mg c0 P ∧ (P, q) ∈ L.T
  room : c.hot = none → Room c.k X.A
  nd : c.N.Nodup
  fn : ∀ x, c.st x = true → Loc c.sc x → X.fn x = true ∨ c.sc.names.lookup x = some .local
  tk : Takes X (liftX c.K c.W H0 Z0)

/-! ### the judgements -/
def oPost (K : PySem.W.Frag) (H : Hp) (Z : Sh) (Q : D → Prop) : VK := fun v H' => ∃ Z' d, Stp H Z H' Z' ∧ Rr K H H' Z' v d ∧ Q d
def ePost (K : PySem.W.Frag) (H : Hp) (Z : Sh) (Q : D → Prop) : VK := fun v H' => ∃ Z' d, Stp H Z H' Z' ∧ Rp K Z' v d ∧ Q d
def aPost (K : PySem.W.Frag) (H : Hp) (Z : Sh) (Q : List D → Prop) : List V → Hp → Prop := fun vs H' => ∃ Z' ds, Stp H Z H' Z' ∧ Rps K Z' vs ds ∧ Q ds
def tPost (H : Hp) (Z : Sh) (Q : Bool → Prop) : Bool → Hp → Prop := fun b H' => ∃ Z', Stp H Z H' Z' ∧ Q b
/-- an expression: its result may be a new list of one's own -/
def WO (c : Cf) (e : Expr) (Q : D → Prop) (Δ : Dl) : Prop := ∀ X H0 Z0, CtxOk c H0 Z0 X → ∀ σ H Z, Slots c.K H0 Z0 σ H Z Δ → We X e σ H (oPost c.K H Z Q)
/-- an expression: its result is frozen -/
def WE (c : Cf) (e : Expr) (Q : D → Prop) (Δ : Dl) : Prop := ∀ X H0 Z0, CtxOk c H0 Z0 X → ∀ σ H Z, Slots c.K H0 Z0 σ H Z Δ → We X e σ H (ePost c.K H Z Q)
def WA (c : Cf) (es : List Expr) (Q : List D → Prop) (Δ : Dl) : Prop := ∀ X H0 Z0, CtxOk c H0 Z0 X → ∀ σ H Z, Slots c.K H0 Z0 σ H Z Δ → Wa X es σ H (aPost c.K H Z Q)
def WT (c : Cf) (e : Expr) (Q : Bool → Prop) (Δ : Dl) : Prop := ∀ X H0 Z0, CtxOk c H0 Z0 X → ∀ σ H Z, Slots c.K H0 Z0 σ H Z Δ → Wt X e σ H (tPost H Z Q)
def WW (c : Cf) (e : Expr) (Q : Bool → Prop) (Δ : Dl) : Prop := ∀ X H0 Z0, CtxOk c H0 Z0 X → ∀ σ H Z, Slots c.K H0 Z0 σ H Z Δ → Ww X e σ H (tPost H Z Q)

section
variable {c : Cf} {e a b : Expr} {es : List Expr} {Q : D → Prop} {Δ : Dl} {pos : Pos}
/-- a result of one's own may be let go -/
theorem Rr.freeze {K : PySem.W.Frag} {H H' : Hp} {Z Z' : Sh} {v : V} {d : D} (s : Stp H Z H' Z') (r : Rr K H H' Z' v d) : ∃ Z2, Le Z' Z2 ∧ Stp H Z H' Z2 ∧ Rp K Z2 v d.frz := by
  rcases r with r | ⟨l, o, rfl, h0, zl, hl, r⟩
  · refine ⟨Z', Le.refl _, s, ?_⟩
    have e : d.frz = d := by cases r <;> rfl
    rw [e]; exact r
  · exact ⟨_, Le.shr zl, s.share (φ := fz o) h0 zl hl rfl (.fz r.nbo.1), (r.le (Le.shr zl)).frz shr_same⟩
theorem we_of_wo (h : WO c e (fun d => Q d.frz) Δ) : WE c e Q Δ := fun X H0 Z0 hX σ H Z hS =>
  (h X H0 Z0 hX σ H Z hS).mono fun v H' ⟨Z', d, s, r, q⟩ => by
    obtain ⟨Z2, _, s2, r2⟩ := r.freeze s
    exact ⟨Z2, _, s2, r2, q⟩
theorem wo_of_we (h : WE c e Q Δ) : WO c e Q Δ := fun X H0 Z0 hX σ H Z hS =>
  (h X H0 Z0 hX σ H Z hS).mono fun v H' ⟨Z', d, s, r, q⟩ => ⟨Z', d, s, .inl r, q⟩
theorem WO.mono {Q' : D → Prop} (h : WO c e Q Δ) (k : ∀ d, Q d → Q' d) : WO c e Q' Δ := fun X H0 Z0 hX σ H Z hS =>
  (h X H0 Z0 hX σ H Z hS).mono fun v H' ⟨Z', d, s, r, q⟩ => ⟨Z', d, s, r, k d q⟩
theorem WE.mono {Q' : D → Prop} (h : WE c e Q Δ) (k : ∀ d, Q d → Q' d) : WE c e Q' Δ := fun X H0 Z0 hX σ H Z hS =>
  (h X H0 Z0 hX σ H Z hS).mono fun v H' ⟨Z', d, s, r, q⟩ => ⟨Z', d, s, r, k d q⟩
theorem WT.mono {Q Q' : Bool → Prop} (h : WT c e Q Δ) (k : ∀ d, Q d → Q' d) : WT c e Q' Δ := fun X H0 Z0 hX σ H Z hS =>
  (h X H0 Z0 hX σ H Z hS).mono fun v H' ⟨Z', s, q⟩ => ⟨Z', s, k _ q⟩
theorem WA.mono {Q Q' : List D → Prop} (h : WA c es Q Δ) (k : ∀ d, Q d → Q' d) : WA c es Q' Δ := fun X H0 Z0 hX σ H Z hS =>
  (h X H0 Z0 hX σ H Z hS).mono fun v H' ⟨Z', d, s, r, q⟩ => ⟨Z', d, s, r, k d q⟩
/-- one's own list in a slot is let go for a while: what comes of it is plain -/
def D.plain : D → Bool
  | .non => true | .bl _ => true | .int _ => true | .str _ => true | .ty _ => true | .adr _ => true
  | _ => false
theorem Rp.plain {K : PySem.W.Frag} {Z Z' : Sh} {v : V} {d : D} (h : d.plain = true) (r : Rp K Z v d) : Rp K Z' v d := by
  cases r <;> first | exact .non | exact .bl | exact .int | exact .str | exact .ty | exact .adr | cases h
def unshr (Z : Sh) (l : Addr) : Sh := fun a => if a = l then none else Z a
theorem borrow {H H' : Hp} {Z Z' : Sh} {l : Addr} {ob : HO} (zl : Z l = none) (hl : H l = some ob) (nb : Nbo ob) (s : Stp H (shr Z l (fz ob)) H' Z') : Stp H Z H' (unshr Z' l) := by
  have zl' : Z' l = some (fz ob) := s.le l _ shr_same
  refine ⟨fun a φ q => ?_, fun a φ q => ?_, fun a o e z n => ?_, fun P q t => ?_, fun P q z => ?_, s.stays⟩
  · have ne : a ≠ l := fun z => by rw [z, zl] at q; cases q
    unfold unshr
    rw [if_neg ne]
    exact s.le a φ (by rw [shr_ne ne]; exact q)
  · unfold unshr at q
    by_cases ne : a = l
    · rw [if_pos ne] at q; cases q
    · rw [if_neg ne] at q; exact s.ok a φ q
  · by_cases ne : a = l
    · subst ne
      obtain ⟨u, hu, hf⟩ := s.ok a _ (s.le a _ shr_same)
      have hf : u = ob := hf
      rw [hl] at e; cases e
      exact ⟨by rw [hu, hf], by unfold unshr; rw [if_pos rfl]⟩
    · obtain ⟨h1, z1⟩ := s.keep a o e (by rw [shr_ne ne]; exact z) n
      exact ⟨h1, by unfold unshr; rw [if_neg ne]; exact z1⟩
  · have ne : P ≠ l := fun e => by
      obtain ⟨ps, h1⟩ := t.some
      rw [e, hl] at h1
      exact nb.1 ps (Option.some.inj h1)
    have nt : Nt (fz ob) := .fz nb.1
    obtain ⟨n1, z1, ps, h1, h2, h3⟩ := s.tab P q (t.le (Le.shr zl) (t.1.shr nt))
    refine ⟨fun a φ q => ?_, by unfold unshr; rw [if_neg ne]; exact z1, ps, h1, h2, fun pos cv e => ?_⟩
    · unfold unshr at q
      by_cases na : a = l
      · rw [if_pos na] at q; cases q
      · rw [if_neg na] at q; exact n1 a φ q
    obtain ⟨c, e1, zc⟩ := h3 pos cv e
    refine ⟨c, e1, ?_⟩
    have nc : c ≠ l := fun e => by
      rw [e, zl'] at zc
      exact nb.2 _ _ (fz_inj (Option.some.inj zc))
    unfold unshr; rw [if_neg nc]; exact zc
  · have nt : Nt (fz ob) := .fz nb.1
    unfold unshr at z
    by_cases na : P = l
    · rw [if_pos na] at z; cases z
    · rw [if_neg na] at z; exact (shr_tab nt (s.tb P q z)).2
theorem we_borrow (i : Nat) {d : D} (hi : Δ[i]? = some (some d)) (ho : d.own = true) (h : WE c e (fun d => d.plain = true ∧ Q d) (Δ.set i (some d.frz))) : WE c e Q Δ := fun X H0 Z0 hX σ H Z hS => by
  obtain ⟨l, o, zl, hl, hS2, ow⟩ := hS.letsO hi ho
  exact (h X H0 Z0 hX σ H _ hS2).mono fun v H' ⟨Z', d, s, r, p, q⟩ => ⟨_, d, DL.borrow zl hl ow.nbo s, r.plain p, q⟩
theorem wt_borrow {Q : Bool → Prop} (i : Nat) {d : D} (hi : Δ[i]? = some (some d)) (ho : d.own = true) (h : WT c e Q (Δ.set i (some d.frz))) : WT c e Q Δ := fun X H0 Z0 hX σ H Z hS => by
  obtain ⟨l, o, zl, hl, hS2, ow⟩ := hS.letsO hi ho
  exact (h X H0 Z0 hX σ H _ hS2).mono fun b H' ⟨Z', s, q⟩ => ⟨_, DL.borrow zl hl ow.nbo s, q⟩

/-! ### names, constants -/
theorem we_var (i : Nat) {x : Str} {d : D} (hN : c.N[i]? = some x) (hv : Vis c.sc x) (hi : Δ[i]? = some (some d)) (ho : d.own = false) (q : Q d)
    (hd : (x == ("__debug__" : Str)) = false := by decide) (hcd : (x == ("__classdict__" : Str)) = false := by decide) : WE c (.Name x pos) Q Δ := fun X H0 Z0 hX σ H Z hS => by
  obtain ⟨v, e1, r⟩ := hS.get hi ho
  exact We.of (pe_var (i := i) (by rw [hX.N]; exact hN) (by rw [hX.sc]; exact hv) hd hcd) ⟨v, e1, Z, d, .refl hS.ok, r, q⟩
theorem we_int {i j} (q : Q (.int i)) : WE c (.Constant (.int i) j pos) Q Δ := fun X H0 Z0 hX σ H Z hS => We.of pe_int ⟨Z, _, .refl hS.ok, .int, q⟩
theorem we_str {x j} (q : Q (.str x)) : WE c (.Constant (.str x) j pos) Q Δ := fun X H0 Z0 hX σ H Z hS => We.of pe_str ⟨Z, _, .refl hS.ok, .str, q⟩
theorem we_bl {b j} (q : Q (.bl b)) : WE c (.Constant (.bool b) j pos) Q Δ := fun X H0 Z0 hX σ H Z hS => We.of pe_bl ⟨Z, _, .refl hS.ok, .bl, q⟩
theorem we_non {j} (q : Q .non) : WE c (.Constant .none j pos) Q Δ := fun X H0 Z0 hX σ H Z hS => We.of pe_non ⟨Z, _, .refl hS.ok, .non, q⟩
def Glo (c : Cf) (x : Str) : Prop := c.sc.names.lookup x = some .globalImplicit
theorem CtxOk.gl {H0 Z0 X} (hX : CtxOk c H0 Z0 X) {x : Str} (h : Glo c x) : Gl X x := by
  show X.env.scope.names.lookup x = _
  rw [hX.sc]; exact h
/-- a module's constant (a text, a number) or a class -/
theorem we_glob {x : Str} {u : Value} {d : D} {v : V} (hg : Glo c x) (hm : c.mg x = some u) (r : RelV v u) (rd : ∀ Z, Rp c.K Z v d) (q : Q d) (hd : (x == ("__debug__" : Str)) = false := by decide) : WE c (.Name x pos) Q Δ := fun X H0 Z0 hX σ H Z hS =>
  We.of (pe_glob (hX.gl hg) (by rw [hX.mg]; exact hm) r hd) ⟨Z, d, .refl hS.ok, rd Z, q⟩
theorem we_cls {x : Str} {C : Addr} (hg : Glo c x) (hm : c.mg x = some (.ref C)) (q : Q (.adr C)) (hd : (x == ("__debug__" : Str)) = false := by decide) : WE c (.Name x pos) Q Δ := we_glob hg hm (v := .ref C) rfl (fun _ => .adr) q hd
theorem we_ty {x : Str} {T : String} (hg : Glo c x) (hm : c.mg x = none) (hv : bootBuiltins x = some (.type T)) (q : Q (.ty T)) (hn : x ≠ "__name__" := by decide) (hd : (x == ("__debug__" : Str)) = false := by decide) : WE c (.Name x pos) Q Δ := fun X H0 Z0 hX σ H Z hS =>
  We.of (pe_bltn (v := .ty T) (hX.gl hg) (by rw [hX.mg]; exact hm) hv rfl hn hd) ⟨Z, _, .refl hS.ok, .ty, q⟩

/-! ### arguments -/
def isStar : Expr → Bool
  | .Starred _ _ => true
  | _ => false
theorem star1 {e : Expr} {es : List Expr} {env : Env} (h : isStar e = false) : starEach (e :: es) env = (false, eval e env) :: starEach es env := by
  cases e <;> first | rfl | cases h
theorem star0 {pos : Pos} {env : Env} : ∀ {es : List Expr}, es.any isStar = false → (backTo pos (starEach es env)).any (·.1) = false
  | [], _ => rfl
  | e :: es, h => by
    rw [List.any_cons, Bool.or_eq_false_iff] at h
    rw [star1 h.1]
    show ((false : Bool) || (backTo pos (starEach es env)).any (·.1)) = false
    rw [star0 h.2]; rfl
theorem wa_nil {Q : List D → Prop} (q : Q []) : WA c [] Q Δ := fun X H0 Z0 hX σ H Z hS => Wa.of pa_nil ⟨Z, [], .refl hS.ok, .nil, q⟩
theorem wa_cons {Q : List D → Prop} (h : WE c e (fun d => WA c es (fun ds => Q (d :: ds)) Δ) Δ) (hs : isStar e = false := by rfl) : WA c (e :: es) Q Δ := fun X H0 Z0 hX σ H Z hS => by
  refine Wa.of (pa_cons pe_we pa_we (star1 hs)) ?_
  refine (h X H0 Z0 hX σ H Z hS).mono fun v H1 ⟨Z1, d, s1, r1, q1⟩ => ?_
  refine (q1 X H0 Z0 hX σ H1 Z1 (hS.step s1)).mono fun vs H2 ⟨Z2, ds, s2, r2, q2⟩ => ?_
  exact ⟨Z2, d :: ds, s1.trans s2, .cons (r1.le s2.le) r2, q2⟩
theorem Rps.size {K : PySem.W.Frag} {Z : Sh} {vs : List V} {ds : List D} (r : Rps K Z vs ds) (h : ds.length ≤ sizeLine) : vs.length ≤ sizeLine := by rw [r.length]; exact h
theorem wo_tup {x1} (h : WA c es (fun ds => ds.length ≤ sizeLine ∧ Q (.tup ds)) Δ) : WO c (.Tuple es x1 pos) Q Δ := fun X H0 Z0 hX σ H Z hS => by
  refine We.of (pe_tup pa_we) ((h X H0 Z0 hX σ H Z hS).mono fun vs H1 ⟨Z1, ds, s1, r1, hl, q1⟩ => ⟨r1.size hl, fun p hp => ?_⟩)
  have s2 : Stp H1 Z1 (upd H1 p (.tup vs)) (shr Z1 p (fz (.tup vs))) := .newS s1.ok hp rfl
  exact ⟨_, .tup ds, s1.trans s2, .inl (.tup shr_same (r1.le s2.le)), q1⟩
theorem we_tup {x1} (h : WA c es (fun ds => ds.length ≤ sizeLine ∧ Q (.tup ds)) Δ) : WE c (.Tuple es x1 pos) Q Δ := we_of_wo (wo_tup h)
theorem wo_lst (h : WA c es (fun ds => ds.length ≤ sizeLine ∧ Q (.ol ds)) Δ) : WO c (.List es pos) Q Δ := fun X H0 Z0 hX σ H Z hS => by
  refine We.of (pe_lst pa_we) ((h X H0 Z0 hX σ H Z hS).mono fun vs H1 ⟨Z1, ds, s1, r1, hl, q1⟩ => ⟨r1.size hl, fun p hp => ?_⟩)
  have s2 : Stp H1 Z1 (upd H1 p (.lst vs)) Z1 := .new s1.ok hp
  exact ⟨_, .ol ds, s1.trans s2, .inr ⟨p, _, rfl, s1.free hS.ok hp, s1.ok.none hp, upd_same, .lst r1⟩, q1⟩
theorem we_lst (h : WA c es (fun ds => ds.length ≤ sizeLine ∧ Q (.lst ds)) Δ) : WE c (.List es pos) Q Δ := we_of_wo (wo_lst h)

/-! ### operators by values -/
def VO (c : Cf) (f : Value → Value → Sem Value) (x y : D) (Q : D → Prop) : Prop :=
  ∀ X H0 Z0, CtxOk c H0 Z0 X → ∀ H Z v u, OkZ H Z → Rp c.K Z v x → Rp c.K Z u y → ∃ r : R2, OpR X f r ∧ r v u H (oPost c.K H Z Q)
def VU (c : Cf) (f : Value → Sem Value) (x : D) (Q : D → Prop) : Prop :=
  ∀ X H0 Z0, CtxOk c H0 Z0 X → ∀ H Z v, OkZ H Z → Rp c.K Z v x → ∃ r : V → Hp → VK → Prop, UnR X f r ∧ r v H (oPost c.K H Z Q)
def VC (c : Cf) (f : Value) (xs : List D) (Q : D → Prop) : Prop :=
  ∀ X H0 Z0, CtxOk c H0 Z0 X → ∀ H Z vs, OkZ H Z → Rps c.K Z vs xs → ∃ r : List V → Hp → VK → Prop, CallR X f r ∧ r vs H (oPost c.K H Z Q)
def VI (c : Cf) (x y : D) (Q : D → Prop) : Prop :=
  ∀ X H0 Z0, CtxOk c H0 Z0 X → ∀ H Z v u, OkZ H Z → Rp c.K Z v x → Rp c.K Z u y → ∃ r : R2, IxR X r ∧ r v u H (oPost c.K H Z Q)
def VM (c : Cf) (id : String) (x : D) (ys : List D) (Q : D → Prop) : Prop :=
  ∀ X H0 Z0, CtxOk c H0 Z0 X → ∀ H Z v vs, OkZ H Z → Rp c.K Z v x → Rps c.K Z vs ys → ∃ r : V → List V → Hp → VK → Prop, MtR X id r ∧ r v vs H (oPost c.K H Z Q)
theorem op_any {X : Cx} {f : Value → Value → Sem Value} : OpR X f (fun x y H Q => ∃ r : R2, OpR X f r ∧ r x y H Q) := fun pins s σ H x y v u Q I rx ry ⟨r, h, q⟩ => h pins s σ H x y v u Q I rx ry q
theorem un_any {X : Cx} {f : Value → Sem Value} : UnR X f (fun x H Q => ∃ r : V → Hp → VK → Prop, UnR X f r ∧ r x H Q) := fun pins s σ H x v Q I rx ⟨r, h, q⟩ => h pins s σ H x v Q I rx q
theorem call_any {X : Cx} {f : Value} : CallR X f (fun xs H Q => ∃ r : List V → Hp → VK → Prop, CallR X f r ∧ r xs H Q) := fun pins s σ H xs us Q I rx ⟨r, h, q⟩ => h pins s σ H xs us Q I rx q
theorem ix_any {X : Cx} : IxR X (fun x y H Q => ∃ r : R2, IxR X r ∧ r x y H Q) := fun a b pins s σ H x y v u Q I rx ry ⟨r, h, q⟩ hs => h a b pins s σ H x y v u Q I rx ry q hs
theorem mt_any {X : Cx} {id : String} : MtR X id (fun x ys H Q => ∃ r : V → List V → Hp → VK → Prop, MtR X id r ∧ r x ys H Q) := fun pins s σ H x ys v us Q I rx ry ⟨r, h, q⟩ => h pins s σ H x ys v us Q I rx ry q
theorem oPost.mono {K : PySem.W.Frag} {H H1 H' : Hp} {Z Z1 : Sh} {Q : D → Prop} {v : V} (ok : OkZ H Z) (s : Stp H Z H1 Z1) (h : oPost K H1 Z1 Q v H') : oPost K H Z Q v H' := by
  obtain ⟨Z', d, s', r, q⟩ := h
  refine ⟨Z', d, s.trans s', ?_, q⟩
  rcases r with r | ⟨l, o, e2, h0, zl, hl, r⟩
  · exact .inl r
  · exact .inr ⟨l, o, e2, s.freeF h0, zl, hl, r⟩
theorem wo_bin {op : Operator} (h : WE c a (fun x => WE c b (fun y => VO c (binaryOp op) x y Q) Δ) Δ) : WO c (.BinOp a op b pos) Q Δ := fun X H0 Z0 hX σ H Z hS => by
  refine We.of (pe_op op_any pe_we pe_we) ?_
  refine (h X H0 Z0 hX σ H Z hS).mono fun v H1 ⟨Z1, x, s1, r1, q1⟩ => ?_
  refine (q1 X H0 Z0 hX σ H1 Z1 (hS.step s1)).mono fun u H2 ⟨Z2, y, s2, r2, q2⟩ => ?_
  obtain ⟨r, hr, q⟩ := q2 X H0 Z0 hX H2 Z2 v u s2.ok (r1.le s2.le) r2
  exact ⟨fun x y H Q0 => x = v ∧ y = u ∧ H = H2 ∧ r v u H2 (oPost c.K H2 Z2 Q) ∧ ∀ z H', oPost c.K H2 Z2 Q z H' → Q0 z H',
    fun pins s σ H x y vv uu Q0 I rx ry ⟨ex, ey, eH, k, m⟩ => by
      subst ex; subst ey; subst eH
      exact thn (hr pins s σ _ _ _ vv uu _ I rx ry k) fun _ _ ⟨z, H', I', rz, qz⟩ => ⟨z, H', I', rz, m z H' qz⟩, rfl, rfl, rfl, q, fun z H' p => p.mono hS.ok (s1.trans s2)⟩
theorem we_bin {op : Operator} (h : WE c a (fun x => WE c b (fun y => VO c (binaryOp op) x y (fun d => Q d.frz)) Δ) Δ) : WE c (.BinOp a op b pos) Q Δ := we_of_wo (wo_bin h)
theorem we_cmp {op : CmpOp} (h : WE c a (fun x => WE c b (fun y => VO c (compareOp op) x y (fun d => Q d.frz)) Δ) Δ) (hm : behindInMarks op b = false := by rfl) : WE c (.Compare a [op] [b] pos) Q Δ := we_of_wo fun X H0 Z0 hX σ H Z hS => by
  refine We.of (pe_cmpR op_any pe_we pe_we hm) ?_
  refine (h X H0 Z0 hX σ H Z hS).mono fun v H1 ⟨Z1, x, s1, r1, q1⟩ => ?_
  refine (q1 X H0 Z0 hX σ H1 Z1 (hS.step s1)).mono fun u H2 ⟨Z2, y, s2, r2, q2⟩ => ?_
  obtain ⟨r, hr, q⟩ := q2 X H0 Z0 hX H2 Z2 v u s2.ok (r1.le s2.le) r2
  exact ⟨fun x y H Q0 => x = v ∧ y = u ∧ H = H2 ∧ r v u H2 (oPost c.K H2 Z2 (fun d => Q d.frz)) ∧ ∀ z H', oPost c.K H2 Z2 (fun d => Q d.frz) z H' → Q0 z H',
    fun pins s σ H x y vv uu Q0 I rx ry ⟨ex, ey, eH, k, m⟩ => by
      subst ex; subst ey; subst eH
      exact thn (hr pins s σ _ _ _ vv uu _ I rx ry k) fun _ _ ⟨z, H', I', rz, qz⟩ => ⟨z, H', I', rz, m z H' qz⟩, rfl, rfl, rfl, q, fun z H' p => p.mono hS.ok (s1.trans s2)⟩
end
end DL
end
section
set_option Elab.async false
set_option linter.all false
set_option maxRecDepth 100000
set_option maxHeartbeats 4000000
/-! DL2: more expressions; values; calls; subscripts. -/
namespace DL
open PySem PySem.Spec PyProof.Rows L2
section
variable {c : Cf} {e a b : Expr} {es : List Expr} {Q : D → Prop} {Δ : Dl} {pos : Pos}

/-! ### reading frozen lists and tuples -/
theorem Rp.lst_inv {K : PySem.W.Frag} {Z : Sh} {H : Hp} {v : V} {ds : List D} (ok : OkZ H Z) (r : Rp K Z v (.lst ds)) : ∃ p vs, v = .ref p ∧ H p = some (.lst vs) ∧ Z p = some (fz (.lst vs)) ∧ Rps K Z vs ds := by
  cases r with
  | lst z r =>
    obtain ⟨u, hu, hf⟩ := ok _ _ z
    have hf : u = _ := hf
    subst hf
    exact ⟨_, _, rfl, hu, z, r⟩
theorem Rp.tup_inv {K : PySem.W.Frag} {Z : Sh} {H : Hp} {v : V} {ds : List D} (ok : OkZ H Z) (r : Rp K Z v (.tup ds)) : ∃ p vs, v = .ref p ∧ H p = some (.tup vs) ∧ Z p = some (fz (.tup vs)) ∧ Rps K Z vs ds := by
  cases r with
  | tup z r =>
    obtain ⟨u, hu, hf⟩ := ok _ _ z
    have hf : u = _ := hf
    subst hf
    exact ⟨_, _, rfl, hu, z, r⟩
theorem Rp.ins_inv {K : PySem.W.Frag} {Z : Sh} {H : Hp} {v : V} {C : Addr} {ns : List Str} {ds : List D} (ok : OkZ H Z) (r : Rp K Z v (.ins C ns ds)) : ∃ p dx vs, v = .ref p ∧ H p = some (.ins C dx (ns.zip vs)) ∧ ns.length = vs.length ∧ Rps K Z vs ds := by
  cases r with
  | ins z e r =>
    obtain ⟨u, hu, hf⟩ := ok _ _ z
    have hf : u = _ := hf
    subst hf
    exact ⟨_, _, _, rfl, hu, e, r⟩
theorem opost {K : PySem.W.Frag} {H : Hp} {Z : Sh} {v : V} {d : D} (ok : OkZ H Z) (r : Rp K Z v d) (q : Q d) : oPost K H Z Q v H := ⟨Z, d, .refl ok, .inl r, q⟩
theorem opost_newT {K : PySem.W.Frag} {H : Hp} {Z : Sh} {p : Addr} {vs : List V} {ds : List D} (ok : OkZ H Z) (hp : H p = none) (r : Rps K Z vs ds) (q : Q (.tup ds)) : oPost K H Z Q (.ref p) (upd H p (.tup vs)) :=
  ⟨_, _, .newS (φ := fz (.tup vs)) ok hp rfl, .inl (.tup shr_same (r.le (Le.shr (ok.none hp)))), q⟩
theorem opost_newL {K : PySem.W.Frag} {H : Hp} {Z : Sh} {p : Addr} {vs : List V} {ds : List D} (ok : OkZ H Z) (hp : H p = none) (r : Rps K Z vs ds) (q : Q (.ol ds)) : oPost K H Z Q (.ref p) (upd H p (.lst vs)) :=
  ⟨Z, _, .new ok hp, .inr ⟨p, _, rfl, .of hp, ok.none hp, upd_same, .lst r⟩, q⟩

/-! ### ints -/
section
variable {i j : Int}
theorem vo_i {op : Value → Value → Sem Value} {C : Int → Int → Prop} {g : Int → Int → Int} (ho : ∀ X, OpR X op (rI C fun i j => .int (g i j))) (hc : C i j) (q : Q (.int (g i j))) : VO c op (.int i) (.int j) Q := fun X _ _ _ H Z v u ok r1 r2 => by
  cases r1; cases r2
  exact ⟨_, ho X, i, j, rfl, rfl, hc, opost ok .int q⟩
theorem vo_i0 {op : Value → Value → Sem Value} {g : Int → Int → Int} (ho : ∀ X, OpR X op (rI0 fun i j => .int (g i j))) (q : Q (.int (g i j))) : VO c op (.int i) (.int j) Q := fun X _ _ _ H Z v u ok r1 r2 => by
  cases r1; cases r2
  exact ⟨_, ho X, i, j, rfl, rfl, opost ok .int q⟩
theorem vo_b0 {op : Value → Value → Sem Value} {g : Int → Int → Bool} (ho : ∀ X, OpR X op (rI0 fun i j => .bl (g i j))) (q : Q (.bl (g i j))) : VO c op (.int i) (.int j) Q := fun X _ _ _ H Z v u ok r1 r2 => by
  cases r1; cases r2
  exact ⟨_, ho X, i, j, rfl, rfl, opost ok .bl q⟩
theorem vo_add (q : Q (.int (i + j))) : VO c (binaryOp .Add) (.int i) (.int j) Q := vo_i0 (g := fun i j => i + j) (fun _ => op_add) q
theorem vo_sub (q : Q (.int (i - j))) : VO c (binaryOp .Sub) (.int i) (.int j) Q := vo_i0 (g := fun i j => i - j) (fun _ => op_sub) q
theorem vo_mul (hc : CMul i j) (q : Q (.int (i * j))) : VO c (binaryOp .Mult) (.int i) (.int j) Q := vo_i (g := fun i j => i * j) (fun _ => op_mul) hc q
theorem vo_mod (hc : 0 < j) (q : Q (.int (i % j))) : VO c (binaryOp .Mod) (.int i) (.int j) Q := vo_i (C := fun _ j => 0 < j) (g := fun i j => i % j) (fun _ => op_mod) hc q
theorem log2_64 {j : Int} (h0 : 0 < j) (h : j < 18446744073709551616) : j.natAbs.log2 < 9000 := by
  have := (Nat.log2_lt (n := j.natAbs) (k := 64) (by omega)).mpr (by omega)
  omega
theorem vo_fdiv (hc : 0 < j ∧ j < 18446744073709551616) (q : Q (.int (i / j))) : VO c (binaryOp .FloorDiv) (.int i) (.int j) Q := vo_i (C := CDivW) (g := fun i j => i / j) (fun _ => op_fdivW) ⟨hc.1, log2_64 hc.1 hc.2⟩ q
theorem vo_pow (hc : 0 ≤ j ∧ j ≤ 1000000 ∧ i.natAbs < 2 ^ 64) (q : Q (.int (i ^ j.toNat))) : VO c (binaryOp .Pow) (.int i) (.int j) Q := vo_i (C := CPow) (g := fun i j => i ^ j.toNat) (fun _ => op_pow) hc q
theorem vo_lt (q : Q (.bl (decide (i < j)))) : VO c (compareOp .Lt) (.int i) (.int j) Q := vo_b0 (g := fun i j => decide (i < j)) (fun _ => op_lt) q
theorem vo_le (q : Q (.bl (decide (i ≤ j)))) : VO c (compareOp .LtE) (.int i) (.int j) Q := vo_b0 (g := fun i j => decide (i ≤ j)) (fun _ => op_le) q
theorem vo_gt (q : Q (.bl (decide (j < i)))) : VO c (compareOp .Gt) (.int i) (.int j) Q := vo_b0 (g := fun i j => decide (j < i)) (fun _ => op_gt) q
theorem vo_ge (q : Q (.bl (decide (j ≤ i)))) : VO c (compareOp .GtE) (.int i) (.int j) Q := vo_b0 (g := fun i j => decide (j ≤ i)) (fun _ => op_ge) q
theorem vo_eqi (q : Q (.bl (decide (i = j)))) : VO c (compareOp .Eq) (.int i) (.int j) Q := fun X _ _ _ H Z v u ok r1 r2 => by
  cases r1; cases r2
  refine ⟨_, op_eq, rfl, opost ok .bl ?_⟩
  have e : decide (V.int i = V.int j) = decide (i = j) := by
    by_cases h : i = j
    · subst h; simp
    · rw [decide_eq_false h, decide_eq_false (fun z => h (V.int.inj z))]
  rw [e]; exact q
theorem vo_nei (q : Q (.bl (!decide (i = j)))) : VO c (compareOp .NotEq) (.int i) (.int j) Q := fun X _ _ _ H Z v u ok r1 r2 => by
  cases r1; cases r2
  refine ⟨_, op_ne, rfl, opost ok .bl ?_⟩
  have e : decide (V.int i = V.int j) = decide (i = j) := by
    by_cases h : i = j
    · subst h; simp
    · rw [decide_eq_false h, decide_eq_false (fun z => h (V.int.inj z))]
  rw [e]; exact q
theorem we_neg (h : WE c a (fun x => ∃ i, x = .int i ∧ Q (.int (-i))) Δ) : WE c (.UnaryOp .USub a pos) Q Δ := fun X H0 Z0 hX σ H Z hS =>
  We.of (pe_un un_neg pe_we) ((h X H0 Z0 hX σ H Z hS).mono fun v H1 ⟨Z1, x, s1, r1, i, ex, q⟩ => by subst ex; cases r1; exact ⟨i, rfl, Z1, _, s1, .int, q⟩)
end
/-! ### texts -/
theorem vo_addS {x y : Str} (hl : x.length + y.length ≤ sizeLine) (q : Q (.str (x ++ y))) : VO c (binaryOp .Add) (.str x) (.str y) Q := fun X _ _ _ H Z v u ok r1 r2 => by
  cases r1; cases r2
  exact ⟨_, op_add_str, x, y, rfl, rfl, hl, opost ok .str q⟩
theorem vo_eqS {x y : Str} (q : Q (.bl (decide (x = y)))) : VO c (compareOp .Eq) (.str x) (.str y) Q := fun X _ _ _ H Z v u ok r1 r2 => by
  cases r1; cases r2
  refine ⟨_, op_eq, rfl, opost ok .bl ?_⟩
  have e : decide (V.str x = V.str y) = decide (x = y) := by
    by_cases h : x = y
    · subst h; simp
    · rw [decide_eq_false h, decide_eq_false (fun z => h (V.str.inj z))]
  rw [e]; exact q
theorem vo_neS {x y : Str} (q : Q (.bl (!decide (x = y)))) : VO c (compareOp .NotEq) (.str x) (.str y) Q := fun X _ _ _ H Z v u ok r1 r2 => by
  cases r1; cases r2
  refine ⟨_, op_ne, rfl, opost ok .bl ?_⟩
  have e : decide (V.str x = V.str y) = decide (x = y) := by
    by_cases h : x = y
    · subst h; simp
    · rw [decide_eq_false h, decide_eq_false (fun z => h (V.str.inj z))]
  rw [e]; exact q
/-! ### is -/
def D.isNon : D → Bool
  | .non => true
  | _ => false
theorem vo_isN {x : D} (q : Q (.bl x.isNon)) : VO c (compareOp .Is) x .non Q := fun X _ _ _ H Z v u ok r1 r2 => by
  cases r2
  refine ⟨_, op_isN, rfl, opost ok .bl ?_⟩
  have e : decide (v = V.non) = x.isNon := by cases r1 <;> rfl
  rw [e]; exact q
theorem vo_notN {x : D} (q : Q (.bl (!x.isNon))) : VO c (compareOp .IsNot) x .non Q := fun X _ _ _ H Z v u ok r1 r2 => by
  cases r2
  refine ⟨_, op_notN, rfl, opost ok .bl ?_⟩
  have e : decide (v = V.non) = x.isNon := by cases r1 <;> rfl
  rw [e]; exact q
def D.isB (k : Bool) : D → Bool
  | .bl b => b == k
  | _ => false
theorem op_isB {X : Cx} {k : Bool} : OpR X (compareOp .Is) (fun x y H Q => y = .bl k ∧ (∀ a, x = .ref a → True) ∧ Q (.bl (decide (x = .bl k))) H) := fun pins s σ H x y v u Q I rx ry ⟨ey, _, q⟩ => by
  subst ey; cases ry
  have fin : ∀ b, decide (x = .bl k) = b → EP X pins σ Q (.bool b) s := fun b hb => ⟨.bl b, H, I, rfl, by rw [← hb]; exact q⟩
  show wpAny (model X.prog X.w) X.A (do return Value.bool (← isSame v (.bool k))) (EP X pins σ Q) X.xe s
  cases x with
  | non => cases rx; exact wpAny_bind (wpAny_pure (wpAny_pure (fin _ rfl)))
  | bl b =>
    cases rx
    refine wpAny_bind (wpAny_pure (wpAny_pure (fin _ ?_)))
    cases b <;> cases k <;> rfl
  | int i => obtain ⟨t, rfl⟩ := rx; exact wpAny_bind (wpAny_pure (wpAny_pure (fin _ rfl)))
  | str i => obtain ⟨t, rfl⟩ := rx; exact wpAny_bind (wpAny_pure (wpAny_pure (fin _ rfl)))
  | byt i => obtain ⟨t, rfl⟩ := rx; exact wpAny_bind (wpAny_pure (wpAny_pure (fin _ rfl)))
  | flt i => obtain ⟨t, rfl⟩ := rx; exact wpAny_bind (wpAny_pure (wpAny_pure (fin _ rfl)))
  | ref i => cases rx; exact wpAny_bind (wpAny_pure (wpAny_pure (fin _ rfl)))
  | ty i => cases rx; exact wpAny_bind (wpAny_pure (wpAny_pure (fin _ rfl)))
theorem vo_isB {x : D} {k : Bool} (q : Q (.bl (x.isB k))) : VO c (compareOp .Is) x (.bl k) Q := fun X _ _ _ H Z v u ok r1 r2 => by
  cases r2
  refine ⟨_, op_isB (k := k), rfl, fun _ _ => trivial, opost ok .bl ?_⟩
  have e : decide (v = V.bl k) = x.isB k := by
    cases r1 <;> first | rfl | (rename_i b; cases b <;> cases k <;> rfl)
  rw [e]; exact q

/-! ### truth, tests -/
def D.truth : D → Option Bool
  | .non => some false | .bl b => some b | .int i => some (i != 0)
  | .str y => if y.length ≤ sizeLine then some ((y.length : Int) != 0) else none
  | .tup l => some (!l.isEmpty) | .lst l => some (!l.isEmpty)
  | _ => none
theorem Rps.empty {K : PySem.W.Frag} {Z : Sh} {vs : List V} {ds : List D} (r : Rps K Z vs ds) : vs.isEmpty = ds.isEmpty := by cases r <;> rfl
theorem truV {K : PySem.W.Frag} {H : Hp} {Z : Sh} {v : V} {d : D} {k : Bool} (ok : OkZ H Z) (r : Rp K Z v d) (h : d.truth = some k) : TruV K v H k := by
  cases d with
  | tup l =>
    obtain ⟨p, vs, rfl, hp, _, rr⟩ := r.tup_inv ok
    cases h
    exact .inr (.inl ⟨vs, .of hp, by rw [rr.empty]⟩)
  | lst l =>
    obtain ⟨p, vs, rfl, hp, _, rr⟩ := r.lst_inv ok
    cases h
    exact .inl ⟨vs, .of hp, by rw [rr.empty]⟩
  | non => cases r; cases h; rfl
  | bl b => cases r; cases h; rfl
  | int i => cases r; cases h; rfl
  | str y =>
    cases r
    have h : (if y.length ≤ sizeLine then some ((y.length : Int) != 0) else none) = some k := h
    by_cases hl : y.length ≤ sizeLine
    · rw [if_pos hl] at h
      injection h with h
      exact ⟨hl, h.symm⟩
    · rw [if_neg hl] at h; cases h
  | _ => cases h
theorem wt_cmp {op : CmpOp} {Q : Bool → Prop} (h : WE c a (fun x => WE c b (fun y => VO c (compareOp op) x y (fun d => ∃ k, d = .bl k ∧ Q k)) Δ) Δ) (hm : behindInMarks op b = false := by rfl) : WT c (.Compare a [op] [b] pos) Q Δ := fun X H0 Z0 hX σ H Z hS => by
  refine Wt.of (pt_cmpR op_any pe_we pe_we hm) ?_
  refine (h X H0 Z0 hX σ H Z hS).mono fun v H1 ⟨Z1, x, s1, r1, q1⟩ => ?_
  refine (q1 X H0 Z0 hX σ H1 Z1 (hS.step s1)).mono fun u H2 ⟨Z2, y, s2, r2, q2⟩ => ?_
  obtain ⟨r, hr, q⟩ := q2 X H0 Z0 hX H2 Z2 v u s2.ok (r1.le s2.le) r2
  exact ⟨fun x y H Q0 => x = v ∧ y = u ∧ H = H2 ∧ r v u H2 (oPost c.K H2 Z2 (fun d => ∃ k, d = .bl k ∧ Q k)) ∧ ∀ z H', oPost c.K H2 Z2 (fun d => ∃ k, d = .bl k ∧ Q k) z H' → Q0 z H',
    fun pins s σ H x y vv uu Q0 I rx ry ⟨ex, ey, eH, k, m⟩ => by
      subst ex; subst ey; subst eH
      exact thn (hr pins s σ _ _ _ vv uu _ I rx ry k) fun _ _ ⟨z, H', I', rz, qz⟩ => ⟨z, H', I', rz, m z H' qz⟩, rfl, rfl, rfl, q, fun z H' p => by
      obtain ⟨Z3, d, s3, r3, k, ed, qk⟩ := p
      subst ed
      rcases r3 with r3 | ⟨_, _, _, _, _, _, r3⟩
      · cases r3; exact ⟨k, rfl, Z3, (s1.trans s2).trans s3, qk⟩
      · cases r3⟩
theorem wt_val {Q : Bool → Prop} (h : WE c e (fun d => ∃ k, d = .bl k ∧ Q k) Δ) (he : ∀ env whole, isTrue e env whole = (do let v ← whole; standAt e.pos; holding [v] (truthy v)) := by intro _ _; rfl) : WT c e Q Δ := fun X H0 Z0 hX σ H Z hS =>
  Wt.of (pt_val pe_we (he X.env)) ((h X H0 Z0 hX σ H Z hS).mono fun v H1 ⟨Z1, d, s1, r1, k, ed, q⟩ => by subst ed; cases r1; exact ⟨k, rfl, Z1, s1, q⟩)
theorem wt_truth {Q : Bool → Prop} (h : WE c e (fun d => ∃ k, d.truth = some k ∧ Q k) Δ) (he : ∀ env whole, isTrue e env whole = (do let v ← whole; standAt e.pos; holding [v] (truthy v)) := by intro _ _; rfl) : WT c e Q Δ := fun X H0 Z0 hX σ H Z hS =>
  Wt.of (pt_truth pe_we (he X.env)) ((h X H0 Z0 hX σ H Z hS).mono fun v H1 ⟨Z1, d, s1, r1, k, ed, q⟩ => ⟨k, by rw [hX.K]; exact truV s1.ok r1 ed, Z1, s1, q⟩)
theorem wt_not {Q : Bool → Prop} (h : WT c a (fun k => Q (!k)) Δ) : WT c (.UnaryOp .Not a pos) Q Δ := fun X H0 Z0 hX σ H Z hS =>
  Wt.of (pt_not pt_we) ((h X H0 Z0 hX σ H Z hS).mono fun k H1 ⟨Z1, s1, q⟩ => ⟨Z1, s1, q⟩)
theorem wt_pw {Q : Bool → Prop} (h : WW c e Q Δ) : WT c e Q Δ := fun X H0 Z0 hX σ H Z hS => fun pins s I => h X H0 Z0 hX σ H Z hS _ pins s I
theorem ww_and1 {Q : Bool → Prop} (h : WT c a Q Δ) : WW c (.BoolOp .And [a] pos) Q Δ := fun X H0 Z0 hX σ H Z hS => Ww.of (pw_and1 pt_we) (h X H0 Z0 hX σ H Z hS)
theorem ww_or1 {Q : Bool → Prop} (h : WT c a Q Δ) : WW c (.BoolOp .Or [a] pos) Q Δ := fun X H0 Z0 hX σ H Z hS => Ww.of (pw_or1 pt_we) (h X H0 Z0 hX σ H Z hS)
theorem ww_and {rest : List Expr} {Q : Bool → Prop} (h : WT c a (fun k => if k = true then WW c (.BoolOp .And (b :: rest) pos) Q Δ else Q false) Δ) : WW c (.BoolOp .And (a :: b :: rest) pos) Q Δ := fun X H0 Z0 hX σ H Z hS => by
  refine Ww.of (pw_and pt_we pw_we) ((h X H0 Z0 hX σ H Z hS).mono fun k H1 ⟨Z1, s1, q⟩ => ?_)
  cases k with
  | true =>
    rw [if_pos rfl] at q ⊢
    exact (q X H0 Z0 hX σ H1 Z1 (hS.step s1)).mono fun _ H2 ⟨Z2, s2, q2⟩ => ⟨Z2, s1.trans s2, q2⟩
  | false =>
    rw [if_neg Bool.false_ne_true] at q ⊢
    exact ⟨Z1, s1, q⟩
theorem ww_or {rest : List Expr} {Q : Bool → Prop} (h : WT c a (fun k => if k = true then Q true else WW c (.BoolOp .Or (b :: rest) pos) Q Δ) Δ) : WW c (.BoolOp .Or (a :: b :: rest) pos) Q Δ := fun X H0 Z0 hX σ H Z hS => by
  refine Ww.of (pw_or pt_we pw_we) ((h X H0 Z0 hX σ H Z hS).mono fun k H1 ⟨Z1, s1, q⟩ => ?_)
  cases k with
  | true =>
    rw [if_pos rfl] at q ⊢
    exact ⟨Z1, s1, q⟩
  | false =>
    rw [if_neg Bool.false_ne_true] at q ⊢
    exact (q X H0 Z0 hX σ H1 Z1 (hS.step s1)).mono fun _ H2 ⟨Z2, s2, q2⟩ => ⟨Z2, s1.trans s2, q2⟩
/-- and, or of any values, by truth; the last as it is -/
theorem we_one {op} (h : WE c a Q Δ) : WE c (.BoolOp op [a] pos) Q Δ := fun X H0 Z0 hX σ H Z hS => We.of (pe_one pe_we) (h X H0 Z0 hX σ H Z hS)
theorem we_and {rest : List Expr} (h : WE c a (fun d => ∃ k, d.truth = some k ∧ if k = true then WE c (.BoolOp .And (b :: rest) pos) Q Δ else Q d) Δ) : WE c (.BoolOp .And (a :: b :: rest) pos) Q Δ := fun X H0 Z0 hX σ H Z hS => by
  refine We.of (pe_andT pe_we pe_we) ((h X H0 Z0 hX σ H Z hS).mono fun v H1 ⟨Z1, d, s1, r1, k, ed, q⟩ => ⟨k, by rw [hX.K]; exact truV s1.ok r1 ed, ?_⟩)
  cases k with
  | true =>
    rw [if_pos rfl] at q ⊢
    exact (q X H0 Z0 hX σ H1 Z1 (hS.step s1)).mono fun _ H2 ⟨Z2, d2, s2, r2, q2⟩ => ⟨Z2, d2, s1.trans s2, r2, q2⟩
  | false =>
    rw [if_neg Bool.false_ne_true] at q ⊢
    exact ⟨Z1, d, s1, r1, q⟩
theorem we_or {rest : List Expr} (h : WE c a (fun d => ∃ k, d.truth = some k ∧ if k = true then Q d else WE c (.BoolOp .Or (b :: rest) pos) Q Δ) Δ) : WE c (.BoolOp .Or (a :: b :: rest) pos) Q Δ := fun X H0 Z0 hX σ H Z hS => by
  refine We.of (pe_orT pe_we pe_we) ((h X H0 Z0 hX σ H Z hS).mono fun v H1 ⟨Z1, d, s1, r1, k, ed, q⟩ => ⟨k, by rw [hX.K]; exact truV s1.ok r1 ed, ?_⟩)
  cases k with
  | true =>
    rw [if_pos rfl] at q ⊢
    exact ⟨Z1, d, s1, r1, q⟩
  | false =>
    rw [if_neg Bool.false_ne_true] at q ⊢
    exact (q X H0 Z0 hX σ H1 Z1 (hS.step s1)).mono fun _ H2 ⟨Z2, d2, s2, r2, q2⟩ => ⟨Z2, d2, s1.trans s2, r2, q2⟩
theorem we_not (h : WE c a (fun d => ∃ k, d.truth = some k ∧ Q (.bl (!k))) Δ) : WE c (.UnaryOp .Not a pos) Q Δ := fun X H0 Z0 hX σ H Z hS =>
  We.of (pe_notT pe_we) ((h X H0 Z0 hX σ H Z hS).mono fun v H1 ⟨Z1, d, s1, r1, k, ed, q⟩ => ⟨k, by rw [hX.K]; exact truV s1.ok r1 ed, Z1, _, s1, .bl, q⟩)
theorem wo_if {t : Expr} (h : WT c t (fun k => if k = true then WO c a Q Δ else WO c b Q Δ) Δ) : WO c (.IfExp t a b pos) Q Δ := fun X H0 Z0 hX σ H Z hS => by
  refine We.of (pe_ifExp pt_we pe_we pe_we) ((h X H0 Z0 hX σ H Z hS).mono fun k H1 ⟨Z1, s1, q⟩ => ?_)
  cases k with
  | true =>
    rw [if_pos rfl] at q ⊢
    exact (q X H0 Z0 hX σ H1 Z1 (hS.step s1)).mono fun _ H2 p => p.mono hS.ok s1
  | false =>
    rw [if_neg Bool.false_ne_true] at q ⊢
    exact (q X H0 Z0 hX σ H1 Z1 (hS.step s1)).mono fun _ H2 p => p.mono hS.ok s1
theorem we_if {t : Expr} (h : WT c t (fun k => if k = true then WE c a Q Δ else WE c b Q Δ) Δ) : WE c (.IfExp t a b pos) Q Δ := fun X H0 Z0 hX σ H Z hS => by
  refine We.of (pe_ifExp pt_we pe_we pe_we) ((h X H0 Z0 hX σ H Z hS).mono fun k H1 ⟨Z1, s1, q⟩ => ?_)
  cases k with
  | true =>
    rw [if_pos rfl] at q ⊢
    exact (q X H0 Z0 hX σ H1 Z1 (hS.step s1)).mono fun _ H2 ⟨Z2, d2, s2, r2, q2⟩ => ⟨Z2, d2, s1.trans s2, r2, q2⟩
  | false =>
    rw [if_neg Bool.false_ne_true] at q ⊢
    exact (q X H0 Z0 hX σ H1 Z1 (hS.step s1)).mono fun _ H2 ⟨Z2, d2, s2, r2, q2⟩ => ⟨Z2, d2, s1.trans s2, r2, q2⟩

/-! ### subscripts -/
theorem wo_ix (h : WE c a (fun x => WE c b (fun y => VI c x y Q) Δ) Δ) (hs : PlainIx b := by exact fun _ _ => rfl) : WO c (.Subscript a b pos) Q Δ := fun X H0 Z0 hX σ H Z hS => by
  refine We.of (pe_ix ix_any pe_we pe_we hs) ?_
  refine (h X H0 Z0 hX σ H Z hS).mono fun v H1 ⟨Z1, x, s1, r1, q1⟩ => ?_
  refine (q1 X H0 Z0 hX σ H1 Z1 (hS.step s1)).mono fun u H2 ⟨Z2, y, s2, r2, q2⟩ => ?_
  obtain ⟨r, hr, q⟩ := q2 X H0 Z0 hX H2 Z2 v u s2.ok (r1.le s2.le) r2
  exact ⟨fun x y H Q0 => x = v ∧ y = u ∧ H = H2 ∧ r v u H2 (oPost c.K H2 Z2 Q) ∧ ∀ z H', oPost c.K H2 Z2 Q z H' → Q0 z H',
    fun aa bb pins s σ H x y vv uu Q0 I rx ry ⟨ex, ey, eH, k, m⟩ hh => by
      subst ex; subst ey; subst eH
      exact thn (hr aa bb pins s σ _ _ _ vv uu _ I rx ry k hh) fun _ _ ⟨z, H', I', rz, qz⟩ => ⟨z, H', I', rz, m z H' qz⟩, rfl, rfl, rfl, q, fun z H' p => p.mono hS.ok (s1.trans s2)⟩
theorem we_ix (h : WE c a (fun x => WE c b (fun y => VI c x y (fun d => Q d.frz)) Δ) Δ) (hs : PlainIx b := by exact fun _ _ => rfl) : WE c (.Subscript a b pos) Q Δ := we_of_wo (wo_ix h hs)
theorem atI_rps {K : PySem.W.Frag} {Z : Sh} {vs : List V} {ds : List D} {i : Int} {d : D} (r : Rps K Z vs ds) (h : atI ds i = some d) : ∃ v, atI vs i = some v ∧ Rp K Z v d := by
  unfold atI at h ⊢
  rw [r.length]
  cases e : ixN ds.length i with
  | none => rw [e] at h; cases h
  | some j => rw [e] at h; exact r.get h
theorem vi_lst {ds : List D} {i : Int} {d : D} (h : atI ds i = some d) (q : Q d) : VI c (.lst ds) (.int i) Q := fun X _ _ hX H Z v u ok r1 r2 => by
  cases r2
  obtain ⟨p, vs, rfl, hp, _, r⟩ := r1.lst_inv ok
  obtain ⟨w, e, rw'⟩ := atI_rps r h
  exact ⟨_, ix_list, p, vs, i, w, rfl, rfl, .of hp, e, opost ok rw' q⟩
theorem Rp.lsA_lst {K : PySem.W.Frag} {Z : Sh} {v : V} {a : Addr} {ds : List D} (r : Rp K Z v (.lsA a ds)) : Rp K Z v (.lst ds) := by
  cases r with
  | lsA z r => exact .lst z r
theorem vi_lsA {q : Addr} {ds : List D} {i : Int} {d : D} (h : atI ds i = some d) (qq : Q d) : VI c (.lsA q ds) (.int i) Q := fun X H0 Z0 hX H Z v u ok r1 r2 => vi_lst h qq X H0 Z0 hX H Z v u ok r1.lsA_lst r2
theorem vi_tup {ds : List D} {i : Int} {d : D} (h : atI ds i = some d) (q : Q d) : VI c (.tup ds) (.int i) Q := fun X _ _ hX H Z v u ok r1 r2 => by
  cases r2
  obtain ⟨p, vs, rfl, hp, _, r⟩ := r1.tup_inv ok
  obtain ⟨w, e, rw'⟩ := atI_rps r h
  exact ⟨_, ix_tup, p, vs, i, w, rfl, rfl, .of hp, e, opost ok rw' q⟩
theorem vi_str {x : Str} {i : Int} {k : Nat} (hl : x.length ≤ sizeLine) (h : atI x.cps.toList i = some k) (q : Q (.str ⟨#[k]⟩)) : VI c (.str x) (.int i) Q := fun X _ _ hX H Z v u ok r1 r2 => by
  cases r1; cases r2
  exact ⟨_, ix_str, x, i, k, rfl, rfl, hl, h, opost ok .str q⟩

/-! ### fields of a frozen instance -/
theorem we_fld {f : Str} (h : WE c e (fun x => ∃ C ns ds d, x = .ins C ns ds ∧ Cls c.K C ∧ NoAttr c.K C f ∧ (ns.zip ds).lookup f = some d ∧ Q d) Δ) (hb : ∀ env w, attributeBase e f env w = w := by intro _ _; rfl) : WE c (.Attribute e f pos) Q Δ := fun X H0 Z0 hX σ H Z hS => by
  refine We.of (pe_fld pe_we (hb _ _)) ((h X H0 Z0 hX σ H Z hS).mono fun v H1 ⟨Z1, x, s1, r1, C, ns, ds, d, ex, hc, hn, hl, q⟩ => ?_)
  subst ex
  obtain ⟨p, dx, vs, rfl, hp, el, rr⟩ := r1.ins_inv s1.ok
  obtain ⟨w, hw, rw'⟩ := rr.lookup hl
  rw [hX.K]
  exact ⟨p, C, dx, _, w, rfl, hp, hc, hn, hw, Z1, d, s1, rw', q⟩

/-! ### calls of built-ins by name -/
theorem wo_callB {x : Str} {p : Pos} {id : String} (hg : Glo c x) (hm : c.mg x = none) (hv : bootBuiltins x = some (.builtin id)) (h : WA c (e :: es) (fun ds => VC c (.builtin id) ds Q) Δ) (hs : (e :: es).any isStar = false := by rfl)
    (hn : x ≠ "__name__" := by decide) (hdb : (x == ("__debug__" : Str)) = false := by decide) : WO c (.Call (.Name x p) (e :: es) [] pos) Q Δ := fun X H0 Z0 hX σ H Z hS => by
  rw [List.any_cons, Bool.or_eq_false_iff] at hs
  refine We.of (pe_callB call_any (hX.gl hg) (by rw [hX.mg]; exact hm) hv pa_we hn hdb (star1 hs.1) (star0 hs.2)) ?_
  refine (h X H0 Z0 hX σ H Z hS).mono fun vs H1 ⟨Z1, ds, s1, r1, q1⟩ => ?_
  obtain ⟨r, hr, q⟩ := q1 X H0 Z0 hX H1 Z1 vs s1.ok r1
  exact ⟨fun xs H Q0 => xs = vs ∧ H = H1 ∧ r vs H1 (oPost c.K H1 Z1 Q) ∧ ∀ z H', oPost c.K H1 Z1 Q z H' → Q0 z H',
    fun pins s σ H xs us Q0 I rx ⟨ex, eH, k, m⟩ => by
      subst ex; subst eH
      exact thn (hr pins s σ _ _ us _ I rx k) fun _ _ ⟨z, H', I', rz, qz⟩ => ⟨z, H', I', rz, m z H' qz⟩, rfl, rfl, q, fun z H' p => p.mono hS.ok s1⟩
theorem wo_callTy {x : Str} {p : Pos} {T : String} (hg : Glo c x) (hm : c.mg x = none) (hv : bootBuiltins x = some (.type T)) (h : WA c (e :: es) (fun ds => VC c (.type T) ds Q) Δ) (hs : (e :: es).any isStar = false := by rfl)
    (hn : x ≠ "__name__" := by decide) (hdb : (x == ("__debug__" : Str)) = false := by decide) : WO c (.Call (.Name x p) (e :: es) [] pos) Q Δ := fun X H0 Z0 hX σ H Z hS => by
  rw [List.any_cons, Bool.or_eq_false_iff] at hs
  refine We.of (pe_callTy call_any (hX.gl hg) (by rw [hX.mg]; exact hm) hv pa_we hn hdb (star1 hs.1) (star0 hs.2)) ?_
  refine (h X H0 Z0 hX σ H Z hS).mono fun vs H1 ⟨Z1, ds, s1, r1, q1⟩ => ?_
  obtain ⟨r, hr, q⟩ := q1 X H0 Z0 hX H1 Z1 vs s1.ok r1
  exact ⟨fun xs H Q0 => xs = vs ∧ H = H1 ∧ r vs H1 (oPost c.K H1 Z1 Q) ∧ ∀ z H', oPost c.K H1 Z1 Q z H' → Q0 z H',
    fun pins s σ H xs us Q0 I rx ⟨ex, eH, k, m⟩ => by
      subst ex; subst eH
      exact thn (hr pins s σ _ _ us _ I rx k) fun _ _ ⟨z, H', I', rz, qz⟩ => ⟨z, H', I', rz, m z H' qz⟩, rfl, rfl, q, fun z H' p => p.mono hS.ok s1⟩
theorem Rps.one {K : PySem.W.Frag} {Z : Sh} {vs : List V} {d : D} (r : Rps K Z vs [d]) : ∃ v, vs = [v] ∧ Rp K Z v d := by
  cases r with
  | cons r t => cases t; exact ⟨_, rfl, r⟩
theorem Rps.two {K : PySem.W.Frag} {Z : Sh} {vs : List V} {d e : D} (r : Rps K Z vs [d, e]) : ∃ v u, vs = [v, u] ∧ Rp K Z v d ∧ Rp K Z u e := by
  cases r with
  | cons r t =>
    obtain ⟨u, rfl, r2⟩ := t.one
    exact ⟨_, u, rfl, r, r2⟩
theorem vc_lenL {ds : List D} (q : Q (.int ds.length)) : VC c (.builtin "len") [.lst ds] Q := fun X _ _ hX H Z vs ok r => by
  obtain ⟨v, rfl, r1⟩ := r.one
  obtain ⟨p, ws, rfl, hp, _, rr⟩ := r1.lst_inv ok
  exact ⟨_, call_len_seq, p, ws, rfl, .inl (.of hp), opost ok .int (by rw [rr.length]; exact q)⟩
theorem vc_lenA {q : Addr} {ds : List D} (qq : Q (.int ds.length)) : VC c (.builtin "len") [.lsA q ds] Q := fun X H0 Z0 hX H Z vs ok r => by
  obtain ⟨v, rfl, r1⟩ := r.one
  exact vc_lenL qq X H0 Z0 hX H Z _ ok (.cons r1.lsA_lst .nil)
theorem vc_lenT {ds : List D} (q : Q (.int ds.length)) : VC c (.builtin "len") [.tup ds] Q := fun X _ _ hX H Z vs ok r => by
  obtain ⟨v, rfl, r1⟩ := r.one
  obtain ⟨p, ws, rfl, hp, _, rr⟩ := r1.tup_inv ok
  exact ⟨_, call_len_seq, p, ws, rfl, .inr (.of hp), opost ok .int (by rw [rr.length]; exact q)⟩
theorem vc_lenS {x : Str} (hl : x.length ≤ sizeLine) (q : Q (.int x.length)) : VC c (.builtin "len") [.str x] Q := fun X _ _ hX H Z vs ok r => by
  obtain ⟨v, rfl, r1⟩ := r.one
  cases r1
  exact ⟨_, call_len_str, x, rfl, hl, opost ok .int q⟩
theorem vc_tupL {ds : List D} (q : Q (.tup ds)) : VC c (.type "tuple") [.lst ds] Q := fun X _ _ hX H Z vs ok r => by
  obtain ⟨v, rfl, r1⟩ := r.one
  obtain ⟨p, ws, rfl, hp, _, rr⟩ := r1.lst_inv ok
  exact ⟨_, call_tuple_of, p, ws, rfl, .inl ⟨.of hp, fun l hl => opost_newT ok hl rr q⟩⟩
theorem vc_tupT {ds : List D} (q : Q (.tup ds)) : VC c (.type "tuple") [.tup ds] Q := fun X _ _ hX H Z vs ok r => by
  obtain ⟨v, rfl, r1⟩ := r.one
  obtain ⟨p, ws, rfl, hp, _, rr⟩ := r1.tup_inv ok
  exact ⟨_, call_tuple_of, p, ws, rfl, .inr ⟨.of hp, opost ok r1 q⟩⟩
theorem vc_lstL {ds : List D} (q : Q (.ol ds)) : VC c (.type "list") [.lst ds] Q := fun X _ _ hX H Z vs ok r => by
  obtain ⟨v, rfl, r1⟩ := r.one
  obtain ⟨p, ws, rfl, hp, _, rr⟩ := r1.lst_inv ok
  exact ⟨_, call_list_of, p, ws, rfl, .inl (.of hp), fun l hl => opost_newL ok hl rr q⟩
theorem vc_lstT {ds : List D} (q : Q (.ol ds)) : VC c (.type "list") [.tup ds] Q := fun X _ _ hX H Z vs ok r => by
  obtain ⟨v, rfl, r1⟩ := r.one
  obtain ⟨p, ws, rfl, hp, _, rr⟩ := r1.tup_inv ok
  exact ⟨_, call_list_of, p, ws, rfl, .inr (.of hp), fun l hl => opost_newL ok hl rr q⟩
theorem vc_int {i : Int} (q : Q (.int i)) : VC c (.type "int") [.int i] Q := fun X _ _ hX H Z vs ok r => by
  obtain ⟨v, rfl, r1⟩ := r.one
  cases r1
  exact ⟨_, call_int1, .inl ⟨i, rfl, opost ok .int q⟩⟩
theorem vc_intB {k : Bool} (q : Q (.int (if k then 1 else 0))) : VC c (.type "int") [.bl k] Q := fun X _ _ hX H Z vs ok r => by
  obtain ⟨v, rfl, r1⟩ := r.one
  cases r1
  exact ⟨_, call_int1, .inr ⟨k, rfl, opost ok .int q⟩⟩
theorem vc_str {i : Int} (hl : i.natAbs.log2 < 1920) (q : Q (.str (toString i))) : VC c (.type "str") [.int i] Q := fun X _ _ hX H Z vs ok r => by
  obtain ⟨v, rfl, r1⟩ := r.one
  cases r1
  exact ⟨_, call_str_int, i, rfl, hl, opost ok .str q⟩
theorem vc_min {i j : Int} (q : Q (.int (if j < i then j else i))) (hh : c.hot = none := by rfl) : VC c (.builtin "min") [.int i, .int j] Q := fun X _ _ hX H Z vs ok r => by
  obtain ⟨v, u, rfl, r1, r2⟩ := r.two
  cases r1; cases r2
  exact ⟨_, call_min2 (hX.calm hh), i, j, rfl, opost ok .int q⟩
theorem vc_max {i j : Int} (q : Q (.int (if j > i then j else i))) (hh : c.hot = none := by rfl) : VC c (.builtin "max") [.int i, .int j] Q := fun X _ _ hX H Z vs ok r => by
  obtain ⟨v, u, rfl, r1, r2⟩ := r.two
  cases r1; cases r2
  exact ⟨_, call_max2 (hX.calm hh), i, j, rfl, opost ok .int q⟩
theorem Rps.of_bls {K : PySem.W.Frag} {Z : Sh} : ∀ {vs : List V} {bs : List Bool}, Rps K Z vs (bs.map D.bl) → vs = bs.map V.bl
  | _, [], .nil => rfl
  | _, b :: bs, .cons r t => by cases r; rw [Rps.of_bls t]; rfl
theorem vc_all {bs : List Bool} (q : Q (.bl (bs.all id))) (hh : c.hot = none := by rfl) : VC c (.builtin "all") [.lst (bs.map D.bl)] Q := fun X _ _ hX H Z vs ok r => by
  obtain ⟨v, rfl, r1⟩ := r.one
  obtain ⟨p, ws, rfl, hp, _, rr⟩ := r1.lst_inv ok
  exact ⟨_, cr_all (hX.calm hh), p, bs, rfl, .of (by rw [hp, rr.of_bls]), opost ok .bl q⟩
theorem vc_any {bs : List Bool} (q : Q (.bl (bs.any id))) (hh : c.hot = none := by rfl) : VC c (.builtin "any") [.lst (bs.map D.bl)] Q := fun X _ _ hX H Z vs ok r => by
  obtain ⟨v, rfl, r1⟩ := r.one
  obtain ⟨p, ws, rfl, hp, _, rr⟩ := r1.lst_inv ok
  exact ⟨_, cr_any (hX.calm hh), p, bs, rfl, .of (by rw [hp, rr.of_bls]), opost ok .bl q⟩
theorem vc_sum {ns : List Int} (q : Q (.int ns.sum)) (hh : c.hot = none := by rfl) : VC c (.builtin "sum") [.lst (ns.map D.int)] Q := fun X _ _ hX H Z vs ok r => by
  obtain ⟨v, rfl, r1⟩ := r.one
  obtain ⟨p, ws, rfl, hp, _, rr⟩ := r1.lst_inv ok
  exact ⟨_, cr_sum (hX.calm hh), p, ns, rfl, .of (by rw [hp, rr.of_ints]), opost ok .int q⟩
end
end DL
end
section
set_option Elab.async false
set_option linter.all false
set_option maxRecDepth 100000
set_option maxHeartbeats 4000000
/-! DL3: isinstance, in, == of data, tuples added, slices, join; own defs and classes called. -/
namespace DL
open PySem PySem.Spec PyProof.Rows L2

/-! ### plain data, for the library's == -/
mutual
def D.py : D → PyData
  | .non => .none | .bl b => .bool b | .int i => .int i | .str x => .str x
  | .tup l => .tuple (pys l) | .lst l => .list (pys l)
  | _ => .none
def pys : List D → List PyData
  | [] => []
  | d :: ds => d.py :: pys ds
end
mutual
def D.pure : D → Bool
  | .non => true | .bl _ => true | .int _ => true | .str _ => true
  | .tup l => pures l | .lst l => pures l
  | _ => false
def pures : List D → Bool
  | [] => true
  | d :: ds => d.pure && pures ds
end
mutual
theorem dp_of {K : PySem.W.Frag} {Z : Sh} {H : Hp} (ok : OkZ H Z) : ∀ (d : D) {v : V}, d.pure = true → Rp K Z v d → Dp K H v d.py
  | .non, _, _, r => by cases r; exact .non
  | .bl b, _, _, r => by cases r; exact .bl b
  | .int i, _, _, r => by cases r; exact .int i
  | .str x, _, _, r => by cases r; exact .str x
  | .tup l, _, h, r => by
    obtain ⟨p, vs, rfl, hp, _, rr⟩ := r.tup_inv ok
    exact .tup (.of hp) (dps_of ok l (by simpa [D.pure] using h) rr)
  | .lst l, _, h, r => by
    obtain ⟨p, vs, rfl, hp, _, rr⟩ := r.lst_inv ok
    exact .lst (.of hp) (dps_of ok l (by simpa [D.pure] using h) rr)
  | .ty _, _, h, _ => by cases h
  | .ins _ _ _, _, h, _ => by cases h
  | .adr _, _, h, _ => by cases h
  | .scr _, _, h, _ => by cases h
  | .lsA _ _, _, h, _ => by cases h
  | .pen, _, h, _ => by cases h
  | .dK _ _, _, h, _ => by cases h
  | .dT _ _, _, h, _ => by cases h
  | .ol _, _, h, _ => by cases h
  | .oi _ _ _ _, _, h, _ => by cases h
  | .oK _ _ _, _, h, _ => by cases h
  | .oT _ _ _, _, h, _ => by cases h
theorem dps_of {K : PySem.W.Frag} {Z : Sh} {H : Hp} (ok : OkZ H Z) : ∀ (ds : List D) {vs : List V}, pures ds = true → Rps K Z vs ds → DpAll K H vs (pys ds)
  | [], _, _, r => by cases r; exact .nil
  | d :: ds, _, h, r => by
    cases r with
    | cons r t =>
      have h' : (d.pure && pures ds) = true := h
      rw [Bool.and_eq_true] at h'
      exact .cons (dp_of ok d h'.1 r) (dps_of ok ds h'.2 t)
end

section
variable {c : Cf} {e a b : Expr} {es : List Expr} {Q : D → Prop} {Δ : Dl} {pos : Pos}
theorem vo_eqD {x y : D} (hx : x.pure = true) (hy : y.pure = true) (sx : SeqAt.shaped x.py = true) (sy : SeqAt.shaped y.py = true) (q : Q (.bl (PyData.eqv x.py y.py))) (hh : c.hot = none := by rfl) : VO c (compareOp .Eq) x y Q := fun X _ _ hX H Z v u ok r1 r2 =>
  ⟨_, op_eqD (hX.room hh).units, x.py, y.py, by rw [hX.K]; exact dp_of ok x hx r1, by rw [hX.K]; exact dp_of ok y hy r2, sx, sy, opost ok .bl q⟩
theorem vo_neD {x y : D} (hx : x.pure = true) (hy : y.pure = true) (sx : SeqAt.shaped x.py = true) (sy : SeqAt.shaped y.py = true) (q : Q (.bl (!PyData.eqv x.py y.py))) (hh : c.hot = none := by rfl) : VO c (compareOp .NotEq) x y Q := fun X _ _ hX H Z v u ok r1 r2 =>
  ⟨_, op_neD (hX.room hh).units, x.py, y.py, by rw [hX.K]; exact dp_of ok x hx r1, by rw [hX.K]; exact dp_of ok y hy r2, sx, sy, opost ok .bl q⟩
theorem room_in {A : Around} {k : Nat} (r : Room k A) : A.units + 65 < cLine := by have := r.un; omega
theorem vo_inD {x : D} {ds : List D} (hx : x.pure = true) (hy : pures ds = true) (sx : SeqAt.shaped x.py = true) (sy : SeqAt.shaped (.list (pys ds)) = true) (q : Q (.bl ((pys ds).any fun z => PyData.eqv z x.py))) (hh : c.hot = none := by rfl) : VO c (compareOp .In) x (.lst ds) Q := fun X _ _ hX H Z v u ok r1 r2 =>
  ⟨_, op_inD (room_in (hX.room hh)), x.py, pys ds, by rw [hX.K]; exact dp_of ok x hx r1, by rw [hX.K]; exact dp_of ok (.lst ds) hy r2, sx, sy, opost ok .bl q⟩
theorem vo_niD {x : D} {ds : List D} (hx : x.pure = true) (hy : pures ds = true) (sx : SeqAt.shaped x.py = true) (sy : SeqAt.shaped (.list (pys ds)) = true) (q : Q (.bl (!(pys ds).any fun z => PyData.eqv z x.py))) (hh : c.hot = none := by rfl) : VO c (compareOp .NotIn) x (.lst ds) Q := fun X _ _ hX H Z v u ok r1 r2 =>
  ⟨_, op_notInD (room_in (hX.room hh)), x.py, pys ds, by rw [hX.K]; exact dp_of ok x hx r1, by rw [hX.K]; exact dp_of ok (.lst ds) hy r2, sx, sy, opost ok .bl q⟩
/-! ### in, of texts and of ints -/
theorem Rps.of_strs {K : PySem.W.Frag} {Z : Sh} : ∀ {vs : List V} {zs : List Str}, Rps K Z vs (zs.map D.str) → vs = zs.map V.str
  | _, [], .nil => rfl
  | _, z :: zs, .cons r t => by cases r; rw [Rps.of_strs t]; rfl
theorem flat_strs (zs : List Str) : (zs.map V.str).all flatV = true := by induction zs with
  | nil => rfl
  | cons z zs ih => rw [List.map_cons, List.all_cons, ih]; rfl
theorem flat_ints (zs : List Int) : (zs.map V.int).all flatV = true := by induction zs with
  | nil => rfl
  | cons z zs ih => rw [List.map_cons, List.all_cons, ih]; rfl
/-- a list or a tuple of such items -/
inductive Sq : D → List D → Prop
  | lst {ds : List D} : Sq (.lst ds) ds
  | tup {ds : List D} : Sq (.tup ds) ds
theorem Sq.inv {K : PySem.W.Frag} {Z : Sh} {H : Hp} {v : V} {y : D} {ds : List D} (ok : OkZ H Z) (h : Sq y ds) (r : Rp K Z v y) : ∃ p vs, v = .ref p ∧ (SqL K H p vs ∨ SqT K H p vs) ∧ Rps K Z vs ds := by
  cases h with
  | lst => obtain ⟨p, vs, rfl, hp, _, rr⟩ := r.lst_inv ok; exact ⟨p, vs, rfl, .inl (.of hp), rr⟩
  | tup => obtain ⟨p, vs, rfl, hp, _, rr⟩ := r.tup_inv ok; exact ⟨p, vs, rfl, .inr (.of hp), rr⟩
theorem inV_str (z : Str) (zs : List Str) : inV (.str z) (zs.map V.str) = decide (z ∈ zs) := by
  unfold inV
  induction zs with
  | nil => simp
  | cons y ys ih =>
    rw [List.map_cons, List.any_cons, ih]
    have e : eqV (.str y) (.str z) = decide (z = y) := by
      show (y == z) = decide (z = y)
      by_cases h : z = y
      · subst h; simp
      · rw [decide_eq_false h]
        exact beq_eq_false_iff_ne.mpr fun q => h q.symm
    rw [e]
    by_cases h : z = y <;> by_cases h2 : z ∈ ys <;> simp [h, h2]
theorem inV_int (z : Int) (zs : List Int) : inV (.int z) (zs.map V.int) = decide (z ∈ zs) := by
  unfold inV
  induction zs with
  | nil => simp
  | cons y ys ih =>
    rw [List.map_cons, List.any_cons, ih]
    have e : eqV (.int y) (.int z) = decide (z = y) := by
      show (y == z) = decide (z = y)
      by_cases h : z = y
      · subst h; simp
      · rw [decide_eq_false h]
        exact beq_eq_false_iff_ne.mpr fun q => h q.symm
    rw [e]
    by_cases h : z = y <;> by_cases h2 : z ∈ ys <;> simp [h, h2]
theorem vo_inS {x : Str} {y : D} {zs : List Str} (h : Sq y (zs.map D.str)) (q : Q (.bl (decide (x ∈ zs)))) : VO c (compareOp .In) (.str x) y Q := fun X _ _ hX H Z v u ok r1 r2 => by
  cases r1
  obtain ⟨p, vs, rfl, hp, rr⟩ := h.inv ok r2
  rw [rr.of_strs] at hp
  refine ⟨_, op_in_seq, p, _, rfl, by rw [hX.K]; exact hp, rfl, flat_strs _, opost ok .bl ?_⟩
  rw [if_neg Bool.false_ne_true, inV_str]; exact q
theorem vo_niS {x : Str} {y : D} {zs : List Str} (h : Sq y (zs.map D.str)) (q : Q (.bl (!decide (x ∈ zs)))) : VO c (compareOp .NotIn) (.str x) y Q := fun X _ _ hX H Z v u ok r1 r2 => by
  cases r1
  obtain ⟨p, vs, rfl, hp, rr⟩ := h.inv ok r2
  rw [rr.of_strs] at hp
  refine ⟨_, op_notIn_seq, p, _, rfl, by rw [hX.K]; exact hp, rfl, flat_strs _, opost ok .bl ?_⟩
  rw [if_pos rfl, inV_str]; exact q
theorem vo_inI {x : Int} {y : D} {zs : List Int} (h : Sq y (zs.map D.int)) (q : Q (.bl (decide (x ∈ zs)))) : VO c (compareOp .In) (.int x) y Q := fun X _ _ hX H Z v u ok r1 r2 => by
  cases r1
  obtain ⟨p, vs, rfl, hp, rr⟩ := h.inv ok r2
  rw [rr.of_ints] at hp
  refine ⟨_, op_in_seq, p, _, rfl, by rw [hX.K]; exact hp, rfl, flat_ints _, opost ok .bl ?_⟩
  rw [if_neg Bool.false_ne_true, inV_int]; exact q
theorem vo_niI {x : Int} {y : D} {zs : List Int} (h : Sq y (zs.map D.int)) (q : Q (.bl (!decide (x ∈ zs)))) : VO c (compareOp .NotIn) (.int x) y Q := fun X _ _ hX H Z v u ok r1 r2 => by
  cases r1
  obtain ⟨p, vs, rfl, hp, rr⟩ := h.inv ok r2
  rw [rr.of_ints] at hp
  refine ⟨_, op_notIn_seq, p, _, rfl, by rw [hX.K]; exact hp, rfl, flat_ints _, opost ok .bl ?_⟩
  rw [if_pos rfl, inV_int]; exact q
/-- one sign in a text -/
theorem vo_sign {k : Nat} {z : Str} (q : Q (.bl (decide (k ∈ z.cps.toList)))) : VO c (compareOp .In) (.str ⟨#[k]⟩) (.str z) Q := fun X _ _ hX H Z v u ok r1 r2 => by
  cases r1; cases r2
  exact ⟨_, op_in_sign, k, z, rfl, rfl, opost ok .bl q⟩
theorem vo_nsign {k : Nat} {z : Str} (q : Q (.bl (!decide (k ∈ z.cps.toList)))) : VO c (compareOp .NotIn) (.str ⟨#[k]⟩) (.str z) Q := fun X _ _ hX H Z v u ok r1 r2 => by
  cases r1; cases r2
  exact ⟨_, op_notIn_sign, k, z, rfl, rfl, opost ok .bl q⟩

/-! ### tuples and lists added, repeated, cut -/
theorem vo_catT {xs ys : List D} (hl : xs.length + ys.length ≤ sizeLine) (q : Q (.tup (xs ++ ys))) : VO c (binaryOp .Add) (.tup xs) (.tup ys) Q := fun X _ _ hX H Z v u ok r1 r2 => by
  obtain ⟨p, vs, rfl, hp, _, rr⟩ := r1.tup_inv ok
  obtain ⟨p2, ws, rfl, hp2, _, rr2⟩ := r2.tup_inv ok
  refine ⟨_, op_catA, p, p2, vs, ws, rfl, rfl, .of hp, .of hp2, by rw [rr.length, rr2.length]; exact hl, fun e => ?_, fun _ e => ?_, fun _ _ t ht => opost_newT ok ht (rr.append rr2) q⟩
  · subst e; cases rr; exact opost ok r2 q
  · subst e; cases rr2; rw [List.append_nil] at q; exact opost ok r1 q
theorem vo_catL {xs ys : List D} (hl : xs.length + ys.length ≤ sizeLine) (q : Q (.ol (xs ++ ys))) : VO c (binaryOp .Add) (.lst xs) (.lst ys) Q := fun X _ _ hX H Z v u ok r1 r2 => by
  obtain ⟨p, vs, rfl, hp, _, rr⟩ := r1.lst_inv ok
  obtain ⟨p2, ws, rfl, hp2, _, rr2⟩ := r2.lst_inv ok
  exact ⟨_, op_cat, p, p2, vs, ws, rfl, rfl, hp, hp2, by rw [rr.length, rr2.length]; exact hl, fun t ht => opost_newL ok ht (rr.append rr2) q⟩
theorem Rps.rep {K : PySem.W.Frag} {Z : Sh} {vs : List V} {ds : List D} (r : Rps K Z vs ds) : ∀ n : Nat, Rps K Z (List.replicate n vs).flatten (List.replicate n ds).flatten
  | 0 => .nil
  | n + 1 => by
    rw [List.replicate_succ, List.flatten_cons, List.replicate_succ, List.flatten_cons]
    exact r.append (Rps.rep r n)
theorem vo_repL {xs : List D} {k : Int} (h1 : -(2 ^ 63) ≤ k) (h2 : k < 2 ^ 63) (hl : xs.length * k.toNat ≤ sizeLine) (q : Q (.ol (List.replicate k.toNat xs).flatten)) : VO c (binaryOp .Mult) (.lst xs) (.int k) Q := fun X _ _ hX H Z v u ok r1 r2 => by
  cases r2
  obtain ⟨p, vs, rfl, hp, _, rr⟩ := r1.lst_inv ok
  exact ⟨_, op_rep, p, k, vs, rfl, rfl, hp, h1, h2, by rw [rr.length]; exact hl, fun t ht => opost_newL ok ht (rr.rep _) q⟩
def cutD (xs : List D) (lo hi : Option Int) : List D := (xs.drop (HT.sIx xs.length 0 lo)).take (HT.sIx xs.length xs.length hi - HT.sIx xs.length 0 lo)
theorem Rps.cut {K : PySem.W.Frag} {Z : Sh} {vs : List V} {ds : List D} (r : Rps K Z vs ds) (lo hi : Option Int) : Rps K Z (cutV vs lo hi) (cutD ds lo hi) := by
  unfold cutV cutD
  rw [r.length]
  exact (r.drop _).take _
def VS (c : Cf) (x : D) (lo hi : Option Int) (Q : D → Prop) : Prop :=
  ∀ X H0 Z0, CtxOk c H0 Z0 X → ∀ H Z v, OkZ H Z → Rp c.K Z v x → ∃ r, L2.SlR X r ∧ r v lo hi H (oPost c.K H Z Q)
def WOp (c : Cf) (e : Option Expr) (Q : Option Int → Prop) (Δ : Dl) : Prop :=
  match e with
  | none => Q none
  | some e => WE c e (fun d => ∃ i, d = .int i ∧ Q (some i)) Δ
theorem wop_run {e : Option Expr} {Q : Option Int → Prop} (h : WOp c e Q Δ) {X H0 Z0} (hX : CtxOk c H0 Z0 X) {σ : L2.St} {H : Hp} {Z : Sh} (hS : Slots c.K H0 Z0 σ H Z Δ) : ∃ t, PO X e t ∧ t σ H (fun o H' => ∃ Z', Stp H Z H' Z' ∧ Q o) := by
  cases e with
  | none => exact ⟨_, po_none, Z, .refl hS.ok, h⟩
  | some e =>
    exact ⟨_, po_some pe_we, (show WE c e _ Δ from h) X H0 Z0 hX σ H Z hS |>.mono fun v H1 ⟨Z1, d, s1, r1, i, ed, q⟩ => by subst ed; cases r1; exact ⟨i, rfl, Z1, s1, q⟩⟩
theorem sl_any {X : Cx} : L2.SlR X (fun x lo hi H Q => ∃ r, L2.SlR X r ∧ r x lo hi H Q) := fun pins s σ H x v vl vu lo hi sl Q I rx hs pl pu ⟨r, h, q⟩ => h pins s σ H x v vl vu lo hi sl Q I rx hs pl pu q
/-- the parts of a slice, by what they are in this state -/
def Wpo (X : Cx) (e : Option Expr) : TO := fun σ H Q => ∀ pins s, Inv X pins σ H s → wpAny (model X.prog X.w) X.A (evalPart e X.env) (fun u s' => ∃ o H', Inv X pins σ H' s' ∧ IsPart u o ∧ Q o H') X.xe s
theorem po_we {X : Cx} {e : Option Expr} : PO X e (Wpo X e) := ⟨fun pins s σ H Q I h => h pins s I⟩
theorem wop_we {e : Option Expr} {Q : Option Int → Prop} (h : WOp c e Q Δ) {X H0 Z0} (hX : CtxOk c H0 Z0 X) {σ : L2.St} {H : Hp} {Z : Sh} (hS : Slots c.K H0 Z0 σ H Z Δ) : Wpo X e σ H (fun o H' => ∃ Z', Stp H Z H' Z' ∧ Q o) := by
  obtain ⟨t, ht, q⟩ := wop_run h hX hS
  exact fun pins s I => ht.run pins s σ H _ I q
theorem Wpo.mono {X : Cx} {e : Option Expr} {σ : L2.St} {H : Hp} {Q Q' : Option Int → Hp → Prop} (h : Wpo X e σ H Q) (k : ∀ o H', Q o H' → Q' o H') : Wpo X e σ H Q' := fun pins s I =>
  thn (h pins s I) fun _ _ ⟨o, H', I', r, q⟩ => ⟨o, H', I', r, k o H' q⟩
theorem wo_slice {lo hi : Option Expr} {p2 : Pos} (h : WE c a (fun x => WOp c lo (fun l => WOp c hi (fun u => VS c x l u Q) Δ) Δ) Δ) : WO c (.Subscript a (.Slice lo hi none p2) pos) Q Δ := fun X H0 Z0 hX σ H Z hS => by
  refine We.of (pe_slice sl_any pe_we po_we po_we) ?_
  refine (h X H0 Z0 hX σ H Z hS).mono fun v H1 ⟨Z1, x, s1, r1, q1⟩ => ?_
  refine (wop_we q1 hX (hS.step s1)).mono fun l H2 ⟨Z2, s2, q2⟩ => ?_
  refine (wop_we q2 hX ((hS.step s1).step s2)).mono fun u H3 ⟨Z3, s3, q3⟩ => ?_
  obtain ⟨r, hr, q⟩ := q3 X H0 Z0 hX H3 Z3 v s3.ok (r1.le (s2.le.trans s3.le))
  exact ⟨fun x lo hi H Q0 => x = v ∧ lo = l ∧ hi = u ∧ H = H3 ∧ r v l u H3 (oPost c.K H3 Z3 Q) ∧ ∀ z H', oPost c.K H3 Z3 Q z H' → Q0 z H',
    fun pins s σ H x v' vl vu lo hi sl Q0 I rx hs pl pu ⟨ex, el, eu, eH, k, m⟩ => by
      subst ex; subst el; subst eu; subst eH
      obtain ⟨T, id, h1, h2, h3⟩ := hr pins s σ _ _ v' vl vu _ _ sl _ I rx hs pl pu k
      exact ⟨T, id, h1, h2, thn h3 fun _ _ ⟨z, H', I', rz, qz⟩ => ⟨z, H', I', rz, m z H' qz⟩⟩, rfl, rfl, rfl, rfl, q, fun z H' p => p.mono hS.ok ((s1.trans s2).trans s3)⟩
theorem we_slice {lo hi : Option Expr} {p2 : Pos} (h : WE c a (fun x => WOp c lo (fun l => WOp c hi (fun u => VS c x l u (fun d => Q d.frz)) Δ) Δ) Δ) : WE c (.Subscript a (.Slice lo hi none p2) pos) Q Δ := we_of_wo (wo_slice h)
theorem cut_whole {xs : List D} {lo hi : Option Int} (h : HT.sIx xs.length 0 lo = 0 ∧ HT.sIx xs.length xs.length hi = xs.length) : cutD xs lo hi = xs := by
  unfold cutD
  rw [h.1, h.2, List.drop_zero, Nat.sub_zero, List.take_length]
theorem vs_tup {xs : List D} {lo hi : Option Int} (q : Q (.tup (cutD xs lo hi))) : VS c (.tup xs) lo hi Q := fun X _ _ hX H Z v ok r1 => by
  obtain ⟨p, vs, rfl, hp, _, rr⟩ := r1.tup_inv ok
  refine ⟨_, sl_tupA, p, vs, rfl, .of hp, fun w => ?_, fun w t ht => opost_newT ok ht (rr.cut lo hi) q⟩
  rw [cut_whole (by rw [rr.length] at w; exact w)] at q
  exact opost ok r1 q
theorem vs_lst {xs : List D} {lo hi : Option Int} (q : Q (.ol (cutD xs lo hi))) : VS c (.lst xs) lo hi Q := fun X _ _ hX H Z v ok r1 => by
  obtain ⟨p, vs, rfl, hp, _, rr⟩ := r1.lst_inv ok
  exact ⟨_, sl_list, p, vs, rfl, .of hp, fun t ht => opost_newL ok ht (rr.cut lo hi) q⟩

/-! ### isinstance -/
def D.tyN : D → Option String
  | .non => some "NoneType" | .bl _ => some "bool" | .int _ => some "int" | .str _ => some "str" | .tup _ => some "tuple" | .lst _ => some "list" | .dK _ _ => some "dict" | .dT _ _ => some "dict"
  | _ => none
theorem tyX_of {K : PySem.W.Frag} {H : Hp} {Z : Sh} {v : V} {d : D} {T : String} (ok : OkZ H Z) (r : Rp K Z v d) (h : d.tyN = some T) : TyX K H v (.type T) := by
  cases d with
  | non => cases r; cases h; exact .base .non
  | bl b => cases r; cases h; exact .base (.bl b)
  | int b => cases r; cases h; exact .base (.int b)
  | str b => cases r; cases h; exact .base (.str b)
  | tup l => obtain ⟨p, vs, rfl, hp, _⟩ := r.tup_inv ok; cases h; exact .base (.tup hp)
  | lst l => obtain ⟨p, vs, rfl, hp, _⟩ := r.lst_inv ok; cases h; exact .base (.lst hp)
  | dK ks l =>
    cases r with
    | dK z _ _ =>
      obtain ⟨u, hu, hf⟩ := ok _ _ z
      have hf : u = _ := hf
      subst hf; cases h; exact .base (.dK hu)
  | dT ks l =>
    cases r with
    | dT z _ _ =>
      obtain ⟨u, hu, hf⟩ := ok _ _ z
      have hf : u = _ := hf
      subst hf; cases h; exact .base (.dT hu)
  | _ => cases h
theorem vc_isi {x : D} {T U : String} {k : Bool} (hx : x.tyN = some T) (hk : kitB T U = some k) (q : Q (.bl k)) : VC c (.builtin "isinstance") [x, .ty U] Q := fun X _ _ hX H Z vs ok r => by
  obtain ⟨v, u, rfl, r1, r2⟩ := r.two
  cases r2
  exact ⟨_, call_isi, v, .ty U, .type T, .type U, k, rfl, .ty U, by rw [hX.K]; exact tyX_of ok r1 hx, kit_ty hk, opost ok .bl q⟩
def kitBs (T : String) : List String → Option Bool
  | [] => some false
  | U :: Us => match kitB T U with
    | some true => some true
    | some false => kitBs T Us
    | none => none
theorem kitBs_any {K : PySem.W.Frag} {T : String} : ∀ {Us : List String} {k : Bool}, kitBs T Us = some k → PySem.W.kitAny K (.type T) (Us.map Value.type) = some k
  | [], k, h => h
  | U :: Us, k, h => by
    rw [List.map_cons]
    unfold kitBs at h
    cases e : kitB T U with
    | none => rw [e] at h; cases h
    | some b =>
      rw [e] at h
      cases b with
      | true => cases h; exact kitAny_cons (kit_ty e) (fun z => nomatch z) (fun _ => rfl)
      | false => exact kitAny_cons (kit_ty e) (fun _ => kitBs_any h) (fun z => nomatch z)
theorem clsV_tys {K : PySem.W.Frag} {Z : Sh} : ∀ {vs : List V} {Us : List String}, Rps K Z vs (Us.map D.ty) → Paired ClsV vs (Us.map Value.type)
  | _, [], .nil => .nil
  | _, U :: Us, .cons r t => by cases r; exact .cons (.ty U) (clsV_tys t)
theorem vc_isiT {x : D} {T : String} (Us : List String) {k : Bool} (hx : x.tyN = some T) (hk : kitBs T Us = some k) (q : Q (.bl k)) : VC c (.builtin "isinstance") [x, .tup (Us.map D.ty)] Q := fun X _ _ hX H Z vs ok r => by
  obtain ⟨v, u, rfl, r1, r2⟩ := r.two
  obtain ⟨p, ws, rfl, hp, _, rr⟩ := r2.tup_inv ok
  exact ⟨_, call_isiT, v, p, ws, .type T, Us.map Value.type, k, rfl, hp, clsV_tys rr, by rw [hX.K]; exact tyX_of ok r1 hx, kitBs_any hk, opost ok .bl q⟩
/-- an own class: what the program's text says of it -/
structure ClsF (K : PySem.W.Frag) (C : Addr) : Prop where
  cl : Cls K C
  ha : PySem.W.findIn K (.ref C) "__class__" = some (some (.builtin "object.__class__"))
  hn : PySem.W.specialIn K (.builtin "object.__class__") "__get__" = some (some (.builtin "getset_descriptor.__get__"))
  htk : PySem.W.takesIn K (.builtin "object.__class__") = some true
  hm : PySem.W.mroIn K C (.type "object") = some true
theorem vc_isiC {x : D} {T : String} {C : Addr} {k : Bool} (hx : x.tyN = some T) (hk : PySem.W.kitOne c.K (.type T) (.ref C) = some k) (q : Q (.bl k)) : VC c (.builtin "isinstance") [x, .adr C] Q := fun X _ _ hX H Z vs ok r => by
  obtain ⟨v, u, rfl, r1, r2⟩ := r.two
  cases r2
  exact ⟨_, call_isi, v, .ref C, .type T, .ref C, k, rfl, .own C, by rw [hX.K]; exact tyX_of ok r1 hx, by rw [hX.K]; exact hk, opost ok .bl q⟩
theorem vc_isiI {C C' : Addr} {ns : List Str} {ds : List D} {k : Bool} (hc : ClsF c.K C) (hk : PySem.W.kitOne c.K (.ref C) (.ref C') = some k) (q : Q (.bl k)) : VC c (.builtin "isinstance") [.ins C ns ds, .adr C'] Q := fun X _ _ hX H Z vs ok r => by
  obtain ⟨v, u, rfl, r1, r2⟩ := r.two
  cases r2
  obtain ⟨p, dx, ws, rfl, hp, _, _⟩ := r1.ins_inv ok
  refine ⟨_, call_isi, _, .ref C', .ref C, .ref C', k, rfl, .own C', ?_, by rw [hX.K]; exact hk, opost ok .bl q⟩
  rw [hX.K]
  exact .base (.ins hp hc.cl hc.ha hc.hn hc.htk hc.hm)
theorem vc_isiIT {C : Addr} {ns : List Str} {ds : List D} {U : String} {k : Bool} (hc : ClsF c.K C) (hk : PySem.W.kitOne c.K (.ref C) (.type U) = some k) (q : Q (.bl k)) : VC c (.builtin "isinstance") [.ins C ns ds, .ty U] Q := fun X _ _ hX H Z vs ok r => by
  obtain ⟨v, u, rfl, r1, r2⟩ := r.two
  cases r2
  obtain ⟨p, dx, ws, rfl, hp, _, _⟩ := r1.ins_inv ok
  refine ⟨_, call_isi, _, .ty U, .ref C, .type U, k, rfl, .ty U, ?_, by rw [hX.K]; exact hk, opost ok .bl q⟩
  rw [hX.K]
  exact .base (.ins hp hc.cl hc.ha hc.hn hc.htk hc.hm)

/-! ### methods of built-in types -/
theorem we_join {apos : Pos} {z : Expr} (h : WE c a (fun x => ∃ s, x = .str s ∧ WE c z (fun y => ∃ ys : List Str, Sq y (ys.map D.str) ∧ (ys.map (·.length)).sum + ys.length * s.length ≤ 16777216 ∧ Q (.str (Txt.join s ys))) Δ) Δ)
    (hs : isStar z = false := by rfl) (hb : ∀ env w, attributeBase a "join" env w = w := by intro _ _; rfl) (hline : (apos.endLine == pos.line) = true := by rfl) : WE c (.Call (.Attribute a "join" apos) [z] [] pos) Q Δ := fun X H0 Z0 hX σ H Z hS => by
  refine We.of (pe_join pe_we pe_we (star1 hs) (hb _ _) hline) ?_
  refine (h X H0 Z0 hX σ H Z hS).mono fun v H1 ⟨Z1, x, s1, r1, s, ex, q1⟩ => ?_
  subst ex; cases r1
  refine ⟨⟨s, rfl⟩, ?_⟩
  refine (q1 X H0 Z0 hX σ H1 Z1 (hS.step s1)).mono fun u H2 ⟨Z2, y, s2, r2, ys, hy, hl, q⟩ => ?_
  obtain ⟨p, vs, rfl, hp, rr⟩ := hy.inv s2.ok r2
  rw [rr.of_strs] at hp
  exact ⟨s, p, ys, rfl, rfl, by rw [hX.K]; exact hp, hl, Z2, _, s1.trans s2, .str, q⟩

/-! ### own defs -/
abbrev DSp := List D → (D → Prop) → (XD → Prop) → Prop
def lift (K : PySem.W.Frag) (sp : DSp) : Sp := fun vs H Q E => ∃ Z ds Q0 E0, OkZ H Z ∧ Rps K Z vs ds ∧ sp ds Q0 E0 ∧ (∀ d, Q0 d → ∀ v H' Z', Stp H Z H' Z' → Rr K H H' Z' v d → Q v H') ∧
  ∀ x, E0 x → ∀ cls d H' Z', Stp H Z H' Z' → RX K Z' H' cls d x → E cls d H'
structure Def (P : Program) (w : World) (K : PySem.W.Frag) (mg : Str → Option Value) (base : Heap) (j : Nat) (x : Str) (sp : DSp) : Prop where
  ex : ∃ f fd ps, mg x = some (.ref f) ∧ PySem.W.keepIn K (.ref f) = true ∧ Binds K fd ps [] ∧ FnOk P w K mg base (L2.CX P w) j f fd ps (lift K sp)
theorem CtxOk.passes {H0 Z0 X} (hX : CtxOk c H0 Z0 X) : Passes (L2.CX X.prog X.w) X (fun cls d H => liftX c.K c.W H0 Z0 cls d ([] : L2.St) H) := passes_call hX.tk fun _ _ _ _ h => h
theorem CtxOk.fnOk {H0 Z0 X} (hX : CtxOk c H0 Z0 X) {j : Nat} {f : Addr} {fd : FuncData} {ps : List Str} {sp : Sp} (F : FnOk c.P c.w c.K c.mg c.base (L2.CX c.P c.w) j f fd ps sp) : FnOk X.prog X.w X.K X.mg X.base (L2.CX X.prog X.w) j f fd ps sp := by
  rw [hX.P, hX.w, hX.K, hX.mg, hX.base]; exact F
theorem lift_of {H0 : Hp} {Z0 : Sh} {H H1 : Hp} {Z Z1 : Sh} {vs : List V} {ds : List D} {sp : DSp} {W : XD → Prop} {K : PySem.W.Frag} (ok0 : OkZ H0 Z0) (st : Stp H0 Z0 H Z) (s1 : Stp H Z H1 Z1) (r : Rps K Z1 vs ds) (h : sp ds Q W) :
    lift K sp (vs ++ []) H1 (oPost K H Z Q) (fun cls d H => liftX K W H0 Z0 cls d ([] : L2.St) H) := by
  rw [List.append_nil]
  exact ⟨Z1, ds, Q, W, s1.ok, r, h, fun d q v H' Z' s rr => oPost.mono st.ok s1 ⟨Z', d, s, rr, q⟩, fun x w cls d H' Z' s rx => ⟨Z', x, (st.trans s1).trans s, rx, w⟩⟩
theorem wo_call {x : Str} {p : Pos} {j : Nat} {sp : DSp} (F : Def c.P c.w c.K c.mg c.base j x sp) (hj : j ≤ c.k) (hg : Glo c x) (h : WA c (e :: es) (fun ds => sp ds Q c.W) Δ) (hs : (e :: es).any isStar = false := by rfl)
    (hdb : (x == ("__debug__" : Str)) = false := by decide) (hh : c.hot = none := by rfl) : WO c (.Call (.Name x p) (e :: es) [] pos) Q Δ := fun X H0 Z0 hX σ H Z hS => by
  rw [List.any_cons, Bool.or_eq_false_iff] at hs
  obtain ⟨f, fd, ps, hm, hk, hb, FF⟩ := F.ex
  refine We.of (pe_call (hX.fnOk FF) ((hX.room hh).mono hj) (hX.gl hg) (by rw [hX.mg]; exact hm) (by rw [hX.K]; exact hk) (by rw [hX.K]; exact hb) .nil hX.passes pa_we hdb (star1 hs.1) (star0 hs.2)) ?_
  exact (h X H0 Z0 hX σ H Z hS).mono fun vs H1 ⟨Z1, ds, s1, r1, q1⟩ => lift_of hS.ok0 hS.stp s1 r1 q1
theorem we_call {x : Str} {p : Pos} {j : Nat} {sp : DSp} (F : Def c.P c.w c.K c.mg c.base j x sp) (hj : j ≤ c.k) (hg : Glo c x) (h : WA c (e :: es) (fun ds => sp ds (fun d => Q d.frz) c.W) Δ) (hs : (e :: es).any isStar = false := by rfl)
    (hdb : (x == ("__debug__" : Str)) = false := by decide) (hh : c.hot = none := by rfl) : WE c (.Call (.Name x p) (e :: es) [] pos) Q Δ := we_of_wo (wo_call (hh := hh) F hj hg h hs hdb)
end
end DL
end
section
set_option Elab.async false
set_option linter.all false
set_option maxRecDepth 100000
set_option maxHeartbeats 4000000
/-! DL4: what is walked, comprehensions, statements, defs. -/
namespace DL
open PySem PySem.Spec PyProof.Rows L2

/-! ### targets -/
/-- a target takes a frozen value; the slots js may change -/
def WG (c : Cf) (js : List Nat) (tg : Expr) (x : D) (Q : Dl → Prop) (Δ : Dl) : Prop := ∀ X H0 Z0, CtxOk c H0 Z0 X → ∀ σ H Z v, Slots c.K H0 Z0 σ H Z Δ → Rp c.K Z v x →
  Wg X tg v σ H (fun σ' H' => ∃ Z' Δ', Stp H Z H' Z' ∧ Slots c.K H0 Z0 σ' H' Z' Δ' ∧ (σ'.length = σ.length ∧ ∀ i, i ∉ js → σ'[i]? = σ[i]?) ∧ Q Δ')
section
variable {c : Cf} {e a b : Expr} {es : List Expr} {Δ : Dl} {pos : Pos} {js : List Nat}
theorem Wg.of {X : Cx} {tg : Expr} {t : TG} {v : V} {σ : L2.St} {H : Hp} {Q} (h : PG X tg t) (q : t v σ H Q) : Wg X tg v σ H Q := fun pins s u I r => h.run pins s σ H v u Q I r q
theorem Wg.mono {X : Cx} {tg : Expr} {v : V} {σ : L2.St} {H : Hp} {Q Q' : L2.St → Hp → Prop} (h : Wg X tg v σ H Q) (k : ∀ σ' H', Q σ' H' → Q' σ' H') : Wg X tg v σ H Q' := fun pins s u I r =>
  thn (h pins s u I r) fun _ _ ⟨σ', H', I', q⟩ => ⟨σ', H', I', k σ' H' q⟩
theorem CtxOk.pg {H0 Z0 X} (hX : CtxOk c H0 Z0 X) {x : Str} {i : Nat} (hi : c.N[i]? = some x) (hx : Loc c.sc x) (hst : c.st x = true) : PG X (.Name x pos) (gName i) :=
  pg_name (by rw [hX.N]; exact hX.nd) (by rw [hX.N]; exact hi) (by rw [hX.sc]; exact hx) (by rw [hX.sc]; exact hX.fn x hst hx)
theorem wg_name (i : Nat) {x : Str} {d : D} {Q : Dl → Prop} (hi : c.N[i]? = some x) (hx : Loc c.sc x) (hj : i ∈ js) (q : Q (Δ.set i (some d))) (hst : c.st x = true := by rfl) : WG c js (.Name x pos) d Q Δ := fun X H0 Z0 hX σ H Z v hS r =>
  Wg.of (hX.pg hi hx hst) ⟨Z, _, .refl hS.ok, hS.set i r, ⟨List.length_set, fun m hm => by rw [List.getElem?_set_ne (fun e => hm (by rw [← e]; exact hj))]⟩, q⟩
def WGs (c : Cf) (js : List Nat) (ts : List Expr) (xs : List D) (Q : Dl → Prop) (Δ : Dl) : Prop := ∀ X H0 Z0, CtxOk c H0 Z0 X → ∀ σ H Z vs, Slots c.K H0 Z0 σ H Z Δ → Rps c.K Z vs xs →
  ∀ pins s us, Inv X pins σ H s → Vals vs us → wpAny (model X.prog X.w) X.A (assignInOrder ((assignEach ts X.env).map (·.2)) us) (fun _ s' => ∃ σ' H', Inv X pins σ' H' s' ∧ ∃ Z' Δ', Stp H Z H' Z' ∧ Slots c.K H0 Z0 σ' H' Z' Δ' ∧ (σ'.length = σ.length ∧ ∀ i, i ∉ js → σ'[i]? = σ[i]?) ∧ Q Δ') X.xe s
theorem wgs_nil {Q : Dl → Prop} (q : Q Δ) : WGs c js [] [] Q Δ := fun X H0 Z0 hX σ H Z vs hS r pins s us I rv => by
  cases r; cases rv
  exact assignInOrder_nil ⟨σ, H, I, Z, Δ, .refl hS.ok, hS, ⟨rfl, fun _ _ => rfl⟩, q⟩
theorem each1 {e : Expr} {es : List Expr} {env : Env} (h : isStar e = false) : assignEach (e :: es) env = (false, assign e env) :: assignEach es env := by
  cases e <;> first | rfl | cases h
theorem wgs_cons {ts : List Expr} {x : D} {xs : List D} {Q : Dl → Prop} (h : WG c js e x (fun Δ' => WGs c js ts xs Q Δ') Δ) (hs : isStar e = false := by rfl) : WGs c js (e :: ts) (x :: xs) Q Δ := fun X H0 Z0 hX σ H Z vs hS r pins s us I rv => by
  cases r with
  | cons r t =>
    cases rv with
    | cons rv rt =>
      rw [each1 hs]
      refine assignInOrder_cons (thn (h X H0 Z0 hX σ H Z _ hS r pins s _ I rv) fun _ s1 ⟨σ1, H1, I1, Z1, Δ1, s1', hS1, ks, q⟩ => ?_)
      exact thn (q X H0 Z0 hX σ1 H1 Z1 _ hS1 (t.le s1'.le) pins s1 _ I1 rt) fun _ s2 ⟨σ2, H2, I2, Z2, Δ2, s2', hS2, ks2, q2⟩ => ⟨σ2, H2, I2, Z2, Δ2, s1'.trans s2', hS2, ⟨ks2.1.trans ks.1, fun i hi => (ks2.2 i hi).trans (ks.2 i hi)⟩, q2⟩
theorem eachLen : ∀ {ts : List Expr} {env : Env}, (assignEach ts env).length = ts.length
  | [], _ => rfl
  | t :: ts, env => by
    cases t <;> exact congrArg (· + 1) (eachLen (ts := ts))
theorem eachNo : ∀ {ts : List Expr} {env : Env}, ts.any isStar = false → (assignEach ts env).findIdx? (·.1) = none
  | [], _, _ => rfl
  | t :: ts, env, h => by
    rw [List.any_cons, Bool.or_eq_false_iff] at h
    rw [each1 h.1, List.findIdx?_cons]
    show (if false = true then _ else _) = _
    rw [if_neg Bool.false_ne_true, eachNo h.2]
    rfl
theorem wg_tup {ts : List Expr} {k : Nat} {xs : List D} {Q : Dl → Prop} (hl : ts.length = xs.length) (h : WGs c js ts xs Q Δ) (hs : ts.any isStar = false := by rfl) (hh : c.hot = none := by rfl) : WG c js (.Tuple ts k pos) (.tup xs) Q Δ := fun X H0 Z0 hX σ H Z v hS r => by
  obtain ⟨p, vs, rfl, hp, _, rr⟩ := r.tup_inv hS.ok
  refine Wg.of (pg_tup (hX.calm hh) (t := fun vs' σ' H' Q' => vs' = vs ∧ σ' = σ ∧ H' = H ∧ ∀ σ2 H2, (∃ Z' Δ', Stp H Z H2 Z' ∧ Slots c.K H0 Z0 σ2 H2 Z' Δ' ∧ (σ2.length = σ.length ∧ ∀ i, i ∉ js → σ2[i]? = σ[i]?) ∧ Q Δ') → Q' σ2 H2)
    ⟨fun pins s σ' H' vs' us Q' I rv ⟨e1, e2, e3, kk⟩ => by
      subst e1; subst e2; subst e3
      exact thn (h X H0 Z0 hX _ _ Z _ hS rr pins s us I rv) fun _ s2 ⟨σ2, H2, I2, q⟩ => ⟨σ2, H2, I2, kk σ2 H2 q⟩⟩ eachLen (eachNo hs)) ?_
  exact ⟨p, vs, rfl, .of hp, by rw [rr.length, hl], rfl, rfl, rfl, fun _ _ q => q⟩

/-! ### what is walked -/
def Wi (X : Cx) (tg iter : Expr) : TI := fun σ H R => ∀ pins s, Inv X pins σ H s → wpAny (model X.prog X.w) X.A (eval iter X.env) (fun v s1 => wpAny (model X.prog X.w) X.A (pyIter v) (PIE X pins σ tg R) X.xe s1) X.xe s
theorem pi_wi {X : Cx} {tg iter : Expr} : PI X tg iter (Wi X tg iter) := ⟨fun pins s σ H R I h => h pins s I⟩
theorem Wi.of {X : Cx} {tg iter : Expr} {t : TI} {σ : L2.St} {H : Hp} {R} (h : PI X tg iter t) (q : t σ H R) : Wi X tg iter σ H R := fun pins s I => h.run pins s σ H R I q
theorem Wi.mono {X : Cx} {tg iter : Expr} {σ : L2.St} {H : Hp} {R R' : It → Hp → Prop} (h : Wi X tg iter σ H R) (k : ∀ J H', R J H' → R' J H') : Wi X tg iter σ H R' := fun pins s I =>
  thn (h pins s I) fun v s1 h1 => thn h1 fun itv s2 ⟨it, fp, tn, J, H', e, I', T, t0, f, r⟩ => ⟨it, fp, tn, J, H', e, I', T, t0, f, k J H' r⟩
/-- the iterator gives the items, whatever happens meanwhile -/
def Yl (K : PySem.W.Frag) (J : It) (H : Hp) (Z : Sh) (items : List D) : Prop := ∀ H' Z', Le Z Z' → OkZ H' Z' → ∀ i,
  (∀ x, items[i]? = some x → J.go i H' ∧ ∀ v H'', J.yld i H' v H'' → ∃ Z'', Stp H' Z' H'' Z'' ∧ Rp K Z'' v x) ∧ (items[i]? = none → J.stop i H')
def WI (c : Cf) (tg iter : Expr) (Q : List D → Prop) (Δ : Dl) : Prop := ∀ X H0 Z0, CtxOk c H0 Z0 X → ∀ σ H Z, Slots c.K H0 Z0 σ H Z Δ → Wi X tg iter σ H (fun J H' => ∃ Z' items, Stp H Z H' Z' ∧ Yl c.K J H' Z' items ∧ Q items)
theorem fz_at {H' : Hp} {Z Z' : Sh} {p : Addr} {o : HO} (le : Le Z Z') (ok : OkZ H' Z') (z : Z p = some (fz o)) : H' p = some o := by
  obtain ⟨u, hu, hf⟩ := ok p _ (le p _ z)
  have hf : u = o := hf
  rw [hu, hf]
theorem sqL_inj {K : PySem.W.Frag} {H : Hp} {a : Addr} {xs ys : List V} (hk : K.lookup a = none) (h : H a = some (.lst xs)) (h' : SqL K H a ys) : ys = xs := by
  rcases h' with (h' | ⟨o, h'⟩) | ⟨o, its, n, e, _⟩
  · rw [h] at h'; cases h'; rfl
  · rw [h] at h'; cases h'
  · rw [hk] at e; cases e
theorem wi_lst {tg : Expr} {Q : List D → Prop} (h : WE c e (fun d => ∃ ds, d = .lst ds ∧ Q ds) Δ) : WI c tg e Q Δ := fun X H0 Z0 hX σ H Z hS => by
  refine Wi.of (pi_list pe_we) ((h X H0 Z0 hX σ H Z hS).mono fun v H1 ⟨Z1, d, s1, r1, ds, ed, q⟩ => ?_)
  subst ed
  obtain ⟨p, vs, rfl, hp, zp, rr⟩ := r1.lst_inv s1.ok
  refine ⟨p, rfl, ⟨vs, .of hp⟩, Z1, ds, s1, fun H' Z' le ok i => ⟨fun x hx => ?_, fun hn => ?_⟩, q⟩
  · have hp' := fz_at le ok zp
    obtain ⟨w, hw, rw'⟩ := rr.get hx
    exact ⟨⟨vs, w, .of hp', hw⟩, fun v H'' ⟨e, k⟩ => by
      subst e
      have := k vs (.of hp')
      rw [hw] at this; cases this
      exact ⟨Z', .refl ok, rw'.le le⟩⟩
  · exact ⟨vs, .of (fz_at le ok zp), by rw [rr.length]; exact List.getElem?_eq_none_iff.mp hn⟩
theorem wi_tup {tg : Expr} {Q : List D → Prop} (h : WE c e (fun d => ∃ ds, d = .tup ds ∧ Q ds) Δ) : WI c tg e Q Δ := fun X H0 Z0 hX σ H Z hS => by
  refine Wi.of (pi_tup pe_we) ((h X H0 Z0 hX σ H Z hS).mono fun v H1 ⟨Z1, d, s1, r1, ds, ed, q⟩ => ?_)
  subst ed
  obtain ⟨p, vs, rfl, hp, zp, rr⟩ := r1.tup_inv s1.ok
  refine ⟨p, rfl, ⟨vs, .of hp⟩, Z1, ds, s1, fun H' Z' le ok i => ⟨fun x hx => ?_, fun hn => ?_⟩, q⟩
  · have hp' := fz_at le ok zp
    obtain ⟨w, hw, rw'⟩ := rr.get hx
    exact ⟨⟨vs, w, .of hp', hw⟩, fun v H'' ⟨e, k⟩ => by
      subst e
      have := k vs (.of hp')
      rw [hw] at this; cases this
      exact ⟨Z', .refl ok, rw'.le le⟩⟩
  · exact ⟨vs, .of (fz_at le ok zp), by rw [rr.length]; exact List.getElem?_eq_none_iff.mp hn⟩
def rng (lo : Int) (n : Nat) : List D := (List.range n).map fun i => .int (lo + (i : Nat))
theorem rng_get {lo : Int} {n i : Nat} (h : i < n) : (rng lo n)[i]? = some (.int (lo + (i : Nat))) := by
  unfold rng; rw [List.getElem?_map, List.getElem?_range h]; rfl
theorem rng_len (lo : Int) (n : Nat) : (rng lo n).length = n := by unfold rng; rw [List.length_map, List.length_range]
theorem yl_range {K : PySem.W.Frag} {H : Hp} {Z : Sh} {lo : Int} {n : Nat} : Yl K (Itr lo n) H Z (rng lo n) := fun H' Z' le ok i => ⟨fun x hx => by
    have hi : i < n := by have := (List.getElem?_eq_some_iff.mp hx).1; rwa [rng_len] at this
    rw [rng_get hi] at hx; cases hx
    exact ⟨hi, fun v H'' ⟨e1, e2⟩ => by subst e1; subst e2; exact ⟨Z', .refl ok, .int⟩⟩, fun hn => by
    have := List.getElem?_eq_none_iff.mp hn; rw [rng_len] at this; exact this⟩
theorem wi_range1 {tg : Expr} {p : Pos} {Q : List D → Prop} (hg : Glo c "range") (hm : c.mg "range" = none) (h : WE c a (fun d => ∃ n, d = .int n ∧ (-(2 ^ 62) ≤ n ∧ n < 2 ^ 62) ∧ Q (rng 0 n.toNat)) Δ) (hs : isStar a = false := by rfl) : WI c tg (.Call (.Name "range" p) [a] [] pos) Q Δ := fun X H0 Z0 hX σ H Z hS => by
  refine Wi.of (pi_range1 (hX.gl hg) (by rw [hX.mg]; exact hm) (pa_cons pe_we pa_nil (star1 hs)) (by rw [star1 hs]; rfl)) ?_
  exact (h X H0 Z0 hX σ H Z hS).mono fun v H1 ⟨Z1, d, s1, r1, n, ed, hn, q⟩ => by
    subst ed; cases r1
    exact ⟨n, rfl, hn.1, hn.2, Z1, _, s1, yl_range, q⟩
theorem wi_range2 {tg : Expr} {p : Pos} {Q : List D → Prop} (hg : Glo c "range") (hm : c.mg "range" = none) (h : WE c a (fun d => ∃ m, d = .int m ∧ WE c b (fun d => ∃ n, d = .int n ∧ (-(2 ^ 62) ≤ m ∧ m < 2 ^ 62 ∧ -(2 ^ 62) ≤ n ∧ n < 2 ^ 62) ∧ Q (rng m (n - m).toNat)) Δ) Δ) (hs : isStar a = false := by rfl) (hs2 : isStar b = false := by rfl) :
    WI c tg (.Call (.Name "range" p) [a, b] [] pos) Q Δ := fun X H0 Z0 hX σ H Z hS => by
  refine Wi.of (pi_range2 (hX.gl hg) (by rw [hX.mg]; exact hm) (pa_cons pe_we (pa_cons pe_we pa_nil (star1 hs2)) (star1 hs)) (by rw [star1 hs, star1 hs2]; rfl) (by rw [star1 hs2]; rfl)) ?_
  refine (h X H0 Z0 hX σ H Z hS).mono fun v H1 ⟨Z1, d, s1, r1, m, ed, q1⟩ => ?_
  subst ed; cases r1
  exact (q1 X H0 Z0 hX σ H1 Z1 (hS.step s1)).mono fun u H2 ⟨Z2, d2, s2, r2, n, ed2, hn, q⟩ => by
    subst ed2; cases r2
    exact ⟨m, n, rfl, hn, Z2, _, s1.trans s2, yl_range, q⟩
def signs (x : Str) : List D := x.cps.toList.map fun k => .str ⟨#[k]⟩
theorem wi_str {tg : Expr} {Q : List D → Prop} (h : WE c e (fun d => ∃ x, d = .str x ∧ Q (signs x)) Δ) : WI c tg e Q Δ := fun X H0 Z0 hX σ H Z hS => by
  refine Wi.of (pi_str pe_we) ((h X H0 Z0 hX σ H Z hS).mono fun v H1 ⟨Z1, d, s1, r1, x, ed, q⟩ => ?_)
  subst ed; cases r1
  refine ⟨x, rfl, Z1, _, s1, fun H' Z' le ok i => ⟨fun y hy => ?_, fun hn => ?_⟩, q⟩
  · have hi : i < x.cps.size := by have := (List.getElem?_eq_some_iff.mp hy).1; simpa [signs] using this
    refine ⟨hi, fun v H'' ⟨e1, k, e2, e3⟩ => ?_⟩
    subst e1; subst e3
    have : (signs x)[i]? = some (.str ⟨#[k]⟩) := by
      unfold signs; rw [List.getElem?_map, Array.getElem?_toList, e2]; rfl
    rw [hy] at this; cases this
    exact ⟨Z', .refl ok, .str⟩
  · have := List.getElem?_eq_none_iff.mp hn
    show x.cps.size ≤ i
    simpa [signs] using this
/-- pairs, each a new tuple -/
def pairs (xs ys : List D) : List D := (xs.zip ys).map fun p => .tup [p.1, p.2]
theorem pairs_get {xs ys : List D} {i : Nat} {d : D} (h : (pairs xs ys)[i]? = some d) : ∃ x y, xs[i]? = some x ∧ ys[i]? = some y ∧ d = .tup [x, y] := by
  unfold pairs at h
  rw [List.getElem?_map] at h
  cases e : (xs.zip ys)[i]? with
  | none => rw [e] at h; cases h
  | some p =>
    rw [e] at h; cases h
    have := List.getElem?_zip_eq_some.mp e
    exact ⟨p.1, p.2, this.1, this.2, rfl⟩
theorem pairs_none {xs ys : List D} {i : Nat} (h : (pairs xs ys)[i]? = none) : xs.length ≤ i ∨ ys.length ≤ i := by
  have := List.getElem?_eq_none_iff.mp h
  unfold pairs at this
  rw [List.length_map, List.length_zip] at this
  omega
theorem wi_zip {ts : List Expr} {kk : Nat} {tpos p : Pos} {Q : List D → Prop} (hg : Glo c "zip") (hm : c.mg "zip" = none)
    (h : WE c a (fun x => WE c b (fun y => (∃ xs ys, x = .lst xs ∧ y = .lst ys ∧ Q (pairs xs ys)) ∨ ∃ xs ys, x = .tup xs ∧ y = .tup ys ∧ Q (pairs xs ys)) Δ) Δ) (hs : isStar a = false := by rfl) (hs2 : isStar b = false := by rfl) :
    WI c (.Tuple ts kk tpos) (.Call (.Name "zip" p) [a, b] [] pos) Q Δ := fun X H0 Z0 hX σ H Z hS => by
  refine Wi.of (RZ.pi_zipA (hX.gl hg) (by rw [hX.mg]; exact hm) (pa_cons pe_we (pa_cons pe_we pa_nil (star1 hs2)) (star1 hs)) (star1 hs) (by rw [star1 hs2]; rfl)) ?_
  refine (h X H0 Z0 hX σ H Z hS).mono fun v H1 ⟨Z1, x, s1, r1, q1⟩ => ?_
  refine (q1 X H0 Z0 hX σ H1 Z1 (hS.step s1)).mono fun u H2 ⟨Z2, y, s2, r2, q⟩ => ?_
  have r1' := r1.le s2.le
  rcases q with ⟨xs, ys, rfl, rfl, q⟩ | ⟨xs, ys, rfl, rfl, q⟩
  · obtain ⟨pa, vs, rfl, hp, zp, rr⟩ := r1'.lst_inv s2.ok
    obtain ⟨pb, ws, rfl, hp2, zp2, rr2⟩ := r2.lst_inv s2.ok
    refine ⟨pa, pb, vs, ws, rfl, .inl ⟨.of hp, .of hp2, Z2, _, s1.trans s2, fun H' Z' le ok i => ⟨fun d hd => ?_, fun hn => ?_⟩, q⟩⟩
    · obtain ⟨x, y, hx, hy, rfl⟩ := pairs_get hd
      obtain ⟨xv, hxv, rx⟩ := rr.get hx
      obtain ⟨yv, hyv, ry⟩ := rr2.get hy
      have h1 := fz_at le ok zp
      have h2 := fz_at le ok zp2
      refine ⟨⟨vs, ws, xv, yv, .of h1, .of h2, hxv, hyv⟩, fun v H'' ⟨T, x', y', ev, hT, eH, k1, k2⟩ => ?_⟩
      have a1 := k1 vs (.of h1)
      have a2 := k2 ws (.of h2)
      rw [hxv] at a1; rw [hyv] at a2
      cases a1; cases a2
      subst ev; subst eH
      have st : Stp H' Z' (upd H' T (.tup [xv, yv])) (shr Z' T (fz (.tup [xv, yv]))) := .newS ok hT rfl
      exact ⟨_, st, .tup shr_same (.cons ((rx.le le).le st.le) (.cons ((ry.le le).le st.le) .nil))⟩
    · refine ⟨vs, ws, .of (fz_at le ok zp), .of (fz_at le ok zp2), ?_⟩
      rw [rr.length, rr2.length]; exact pairs_none hn
  · obtain ⟨pa, vs, rfl, hp, zp, rr⟩ := r1'.tup_inv s2.ok
    obtain ⟨pb, ws, rfl, hp2, zp2, rr2⟩ := r2.tup_inv s2.ok
    refine ⟨pa, pb, vs, ws, rfl, .inr ⟨.of hp, .of hp2, Z2, _, s1.trans s2, fun H' Z' le ok i => ⟨fun d hd => ?_, fun hn => ?_⟩, q⟩⟩
    · obtain ⟨x, y, hx, hy, rfl⟩ := pairs_get hd
      obtain ⟨xv, hxv, rx⟩ := rr.get hx
      obtain ⟨yv, hyv, ry⟩ := rr2.get hy
      have h1 := fz_at le ok zp
      have h2 := fz_at le ok zp2
      refine ⟨⟨vs, ws, xv, yv, .of h1, .of h2, hxv, hyv⟩, fun v H'' ⟨T, x', y', ev, hT, eH, k1, k2⟩ => ?_⟩
      have a1 := k1 vs (.of h1)
      have a2 := k2 ws (.of h2)
      rw [hxv] at a1; rw [hyv] at a2
      cases a1; cases a2
      subst ev; subst eH
      have st : Stp H' Z' (upd H' T (.tup [xv, yv])) (shr Z' T (fz (.tup [xv, yv]))) := .newS ok hT rfl
      exact ⟨_, st, .tup shr_same (.cons ((rx.le le).le st.le) (.cons ((ry.le le).le st.le) .nil))⟩
    · refine ⟨vs, ws, .of (fz_at le ok zp), .of (fz_at le ok zp2), ?_⟩
      rw [rr.length, rr2.length]; exact pairs_none hn
def enums (xs : List D) : List D := pairs (rng 0 xs.length) xs
theorem wi_enumL {ts : List Expr} {kk : Nat} {tpos p : Pos} {Q : List D → Prop} (hg : Glo c "enumerate") (hm : c.mg "enumerate" = none)
    (h : WE c a (fun x => ∃ xs, x = .lst xs ∧ Q (enums xs)) Δ) (hs : isStar a = false := by rfl) : WI c (.Tuple ts kk tpos) (.Call (.Name "enumerate" p) [a] [] pos) Q Δ := fun X H0 Z0 hX σ H Z hS => by
  refine Wi.of (pi_enum (hX.gl hg) (by rw [hX.mg]; exact hm) (pa_cons pe_we pa_nil (star1 hs)) (by rw [star1 hs]; rfl)) ?_
  refine (h X H0 Z0 hX σ H Z hS).mono fun v H1 ⟨Z1, x, s1, r1, xs, ex, q⟩ => ?_
  subst ex
  obtain ⟨pa, vs, rfl, hp, zp, rr⟩ := r1.lst_inv s1.ok
  refine ⟨pa, vs, rfl, .of hp, Z1, _, s1, fun H' Z' le ok i => ⟨fun d hd => ?_, fun hn => ?_⟩, q⟩
  · obtain ⟨x, y, hx, hy, rfl⟩ := pairs_get hd
    have hi : i < xs.length := (List.getElem?_eq_some_iff.mp hy).1
    rw [rng_get hi] at hx; cases hx
    obtain ⟨yv, hyv, ry⟩ := rr.get hy
    have h1 := fz_at le ok zp
    refine ⟨⟨vs, yv, .of h1, hyv⟩, fun v H'' ⟨T, y', ev, hT, eH, k1⟩ => ?_⟩
    have a1 := k1 vs (.of h1)
    rw [hyv] at a1; cases a1
    subst ev; subst eH
    have st : Stp H' Z' (upd H' T (.tup [.int (i : Nat), yv])) (shr Z' T (fz (.tup [.int (i : Nat), yv]))) := .newS ok hT rfl
    rw [Int.zero_add]
    exact ⟨_, st, .tup shr_same (.cons .int (.cons ((ry.le le).le st.le) .nil))⟩
  · refine ⟨vs, .of (fz_at le ok zp), ?_⟩
    rw [rr.length]
    rcases pairs_none hn with q | q
    · rw [rng_len] at q; exact q
    · exact q
end
end DL
end
section
set_option Elab.async false
set_option linter.all false
set_option maxRecDepth 100000
set_option maxHeartbeats 4000000
/-! DL5: comprehensions, statements, defs. -/
namespace DL
open PySem PySem.Spec PyProof.Rows L2

/-! ### list comprehensions -/
/-- the scope of a comprehension's block: what the def has as a cell is one -/
def blkSc (scope sc : Scope) : Scope := { scope with names := scope.names.map fun (n, k) => if (k == NameKind.free && sc.kind == .function && sc.names.lookup n == some .cell) then (n, NameKind.cell) else (n, k) }
def Cf.blk (c : Cf) (scope : Scope) : Cf := { c with sc := blkSc scope c.sc, W := fun _ => False, lam := c.lam.map fun L => ⟨L.T, none⟩, st := fun x => scope.names.lookup x == some .local || scope.names.lookup x == some .cell }
def wipeD (Δ : Dl) : List Nat → Dl
  | [] => Δ
  | v :: vs => (wipeD Δ vs).set v none
section
variable {c : Cf} {e a b : Expr} {es : List Expr} {Q : D → Prop} {Δ : Dl} {pos : Pos} {js : List Nat}
theorem Slots.wipe {K : PySem.W.Frag} {H0 : Hp} {Z0 : Sh} {σ : L2.St} {H : Hp} {Z : Sh} (h : Slots K H0 Z0 σ H Z Δ) : ∀ vs : List Nat, Slots K H0 Z0 (wipe σ vs) H Z (wipeD Δ vs)
  | [] => h
  | v :: vs => by
    have ih := Slots.wipe h vs
    unfold L2.wipe wipeD
    refine ⟨ih.ok0, ih.stp, by simp [ih.len], fun j d q => ?_, fun j j' d1 d2 l q1 q2 o1 o2 s1 s2 => ?_⟩
    · rcases setAt q with ⟨_, e, _⟩ | ⟨hj, q⟩
      · cases e
      · obtain ⟨w, e1, r⟩ := ih.at_ j d q
        exact ⟨w, by rw [List.getElem?_set_ne hj]; exact e1, r⟩
    · rcases setAt q1 with ⟨_, e, _⟩ | ⟨h1, q1⟩
      · cases e
      · rcases setAt q2 with ⟨_, e, _⟩ | ⟨h2, q2⟩
        · cases e
        · rw [List.getElem?_set_ne h1] at s1
          rw [List.getElem?_set_ne h2] at s2
          exact ih.sep j j' d1 d2 l q1 q2 o1 o2 s1 s2
theorem wipe_get {σ : L2.St} : ∀ {vs : List Nat} {i : Nat}, i ∉ vs → (wipe σ vs)[i]? = σ[i]?
  | [], _, _ => rfl
  | v :: vs, i, h => by
    unfold L2.wipe
    rw [List.getElem?_set_ne (fun e => h (by rw [e]; exact List.mem_cons_self)), wipe_get fun m => h (List.mem_cons_of_mem _ m)]
theorem wipe_in {σ : L2.St} : ∀ {vs : List Nat} {i : Nat}, i ∈ vs → i < σ.length → (wipe σ vs)[i]? = some none
  | [], _, h, _ => by cases h
  | v :: vs, i, h, hl => by
    unfold L2.wipe
    by_cases e : v = i
    · subst e
      rw [List.getElem?_set_self (by rw [wipe_length]; exact hl)]
    · rw [List.getElem?_set_ne e]
      exact wipe_in ((List.mem_cons.mp h).resolve_left fun q => e q.symm) hl
theorem wipe_same {σ τ : L2.St} {vs : List Nat} (hl : τ.length = σ.length) (h : ∀ i, i ∉ vs → τ[i]? = σ[i]?) : wipe τ vs = wipe σ vs := by
  apply List.ext_getElem?
  intro i
  by_cases m : i ∈ vs
  · by_cases hi : i < σ.length
    · rw [wipe_in m hi, wipe_in m (by rw [hl]; exact hi)]
    · rw [List.getElem?_eq_none_iff.mpr (by rw [wipe_length, hl]; omega), List.getElem?_eq_none_iff.mpr (by rw [wipe_length]; omega)]
  · rw [wipe_get m, wipe_get m, h i m]
/-- the tests of a clause: none, one -/
def WTs (c : Cf) (ifs : List Expr) (Q : Bool → Prop) (Δ : Dl) : Prop :=
  match ifs with
  | [] => Q true
  | [t] => WT c t Q Δ
  | _ => False
def Wts (X : Cx) (ifs : List Expr) : TT := fun σ H Q => ∀ pins s, Inv X pins σ H s →
  wpAny (model X.prog X.w) X.A (forIn ifs true fun c r => if r = true then do let ok ← isTrue c X.env (eval c X.env); pure (ForInStep.yield ok) else pure (ForInStep.yield r)) (TP X pins σ Q) X.xe s
theorem pts_we {X : Cx} {ifs : List Expr} : PTs X ifs (Wts X ifs) := ⟨fun pins s σ H Q I h => h pins s I⟩
theorem wts_run {ifs : List Expr} {Q : Bool → Prop} (h : WTs c ifs Q Δ) {X H0 Z0} (hX : CtxOk c H0 Z0 X) {σ : L2.St} {H : Hp} {Z : Sh} (hS : Slots c.K H0 Z0 σ H Z Δ) : Wts X ifs σ H (tPost H Z Q) := by
  match ifs, h with
  | [], h => exact fun pins s I => pts_nil.run pins s σ H _ I ⟨Z, .refl hS.ok, h⟩
  | [t], h => exact fun pins s I => (pts_one pt_we).run pins s σ H _ I ((show WT c t Q Δ from h) X H0 Z0 hX σ H Z hS)
theorem Wts.mono {X : Cx} {ifs : List Expr} {σ : L2.St} {H : Hp} {Q Q' : Bool → Hp → Prop} (h : Wts X ifs σ H Q) (k : ∀ b H', Q b H' → Q' b H') : Wts X ifs σ H Q' := fun pins s I =>
  thn (h pins s I) fun _ _ ⟨H', I', q⟩ => ⟨H', I', k _ H' q⟩
theorem lookup_blkL {sc : Scope} {x : Str} : ∀ {names : List (Str × NameKind)}, names.lookup x = some .local → (names.map fun (n, k) => if (k == NameKind.free && sc.kind == .function && sc.names.lookup n == some .cell) then (n, NameKind.cell) else (n, k)).lookup x = some .local
  | [], h => by simp at h
  | (n, k) :: r, h => by
    simp only [List.map_cons, List.lookup_cons] at h ⊢
    by_cases hc : (k == NameKind.free && sc.kind == .function && sc.names.lookup n == some .cell) = true
    · rw [if_pos hc, List.lookup_cons]
      cases q : (x == n) with
      | true =>
        rw [q] at h; cases h
        cases hc
      | false => rw [q] at h; exact lookup_blkL h
    · rw [if_neg hc, List.lookup_cons]
      cases q : (x == n) with
      | true => rw [q] at h; exact h
      | false => rw [q] at h; exact lookup_blkL h
theorem CtxOk.blk {H0 Z0 X} (hX : CtxOk c H0 Z0 X) (hh : c.hot = none) {scope : Scope} (s : Shared) (H : Hp) (C : Addr) (cl : List (Str × Addr)) (fp : List Addr) : CtxOk (c.blk scope) H0 Z0 (X.blk s H scope (compEnvC scope cl C X.env) fp) where
  P := hX.P
  w := hX.w
  K := hX.K
  mg := hX.mg
  base := hX.base
  N := hX.N
  sc := by
    show PySem.relabel scope X.env = blkSc scope c.sc
    rw [← hX.sc]; rfl
  calm := hX.calm
  su := fun a C dd z => by
    have z' : c.hot = some (a, C, dd) := z
    rw [hh] at z'; cases z'
  lm := fun L e => by
    have e' : (c.lam.map fun L => (⟨L.T, none⟩ : Lm)) = some L := e
    cases q : c.lam with
    | none => rw [q] at e'; cases e'
    | some L0 =>
      rw [q] at e'; cases e'
      exact ⟨(hX.lm L0 q).1, (hX.lm L0 q).2.1, fun _ _ _ z => nomatch z⟩
  room := hX.room
  nd := hX.nd
  fn := fun x hs _ => by
    have hs : (scope.names.lookup x == some .local || scope.names.lookup x == some .cell) = true := hs
    rw [Bool.or_eq_true] at hs
    rcases hs with h | h
    · exact .inr (lookup_blkL (beq_iff_eq.mp h))
    · exact .inl h
  tk := takes0.imp fun _ _ _ _ ⟨_, _, _, _, q⟩ => q.elim
def Bg (X : Cx) (scope : Scope) (tg : Expr) : TG := fun v σ H Q => ∀ s H' C cl fp, Wg (X.blk s H' scope (compEnvC scope cl C X.env) fp) tg v σ H Q
def Bt (X : Cx) (scope : Scope) (ifs : List Expr) : TT := fun σ H Q => ∀ s H' C cl fp, Wts (X.blk s H' scope (compEnvC scope cl C X.env) fp) ifs σ H Q
def Be (X : Cx) (scope : Scope) (elt : Expr) : TE := fun σ H Q => ∀ s H' C cl fp, We (X.blk s H' scope (compEnvC scope cl C X.env) fp) elt σ H Q
theorem pg_b {X : Cx} {scope : Scope} {tg : Expr} (s : Shared) (H' : Hp) (C : Addr) (cl : List (Str × Addr)) (fp : List Addr) : PG (X.blk s H' scope (compEnvC scope cl C X.env) fp) tg (Bg X scope tg) := ⟨fun pins s' σ' H2 v u Q' I r k => k s H' C cl fp pins s' u I r⟩
theorem pt_b {X : Cx} {scope : Scope} {ifs : List Expr} (s : Shared) (H' : Hp) (C : Addr) (cl : List (Str × Addr)) (fp : List Addr) : PTs (X.blk s H' scope (compEnvC scope cl C X.env) fp) ifs (Bt X scope ifs) := ⟨fun pins s' σ' H2 Q' I k => k s H' C cl fp pins s' I⟩
theorem pe_b {X : Cx} {scope : Scope} {elt : Expr} (s : Shared) (H' : Hp) (C : Addr) (cl : List (Str × Addr)) (fp : List Addr) : PE (X.blk s H' scope (compEnvC scope cl C X.env) fp) elt (Be X scope elt) := ⟨fun pins s' σ' H2 Q' I k => k s H' C cl fp pins s' I⟩
/-- a comprehension over a clause: I by what is gone through and what came of it -/
theorem lc_run {elt tg iter : Expr} {ifs : List Expr} {scope : Scope} {own : List (Str × Nat)}
    (h : WI c tg iter (fun items => items.length ≤ sizeLine ∧ ∃ I : List D → List D → Prop, I [] [] ∧
      (∀ pre x post acc, items = pre ++ x :: post → acc.length ≤ pre.length → I pre acc → WG (c.blk scope) (own.map (·.2)) tg x (fun Δ2 => WTs (c.blk scope) ifs (fun k => if k = true then WE (c.blk scope) elt (fun y => I (pre ++ [x]) (acc ++ [y])) Δ2 else I (pre ++ [x]) acc) Δ2) (wipeD Δ (own.map (·.2)))) ∧
      ∀ acc, acc.length ≤ items.length → I items acc → Q (.ol acc)) Δ)
    (hh : c.hot = none) {X H0 Z0} (hX : CtxOk c H0 Z0 X) {σ : L2.St} {H : Hp} {Z : Sh} (hS : Slots c.K H0 Z0 σ H Z Δ) :
    tLc (Wi X tg iter) (Bg X scope tg) (Bt X scope ifs) (Be X scope elt) (own.map (·.2)) σ H (oPost c.K H Z Q) := by
  refine (h X H0 Z0 hX σ H Z hS).mono fun J H1 ⟨Z1, items, s1, yl, hz, I, i0, turn, fin⟩ => fun Dl hD => ?_
  refine ⟨fun i m H' => m = items.length - i ∧ i ≤ items.length ∧ ∃ Z' vs acc, Stp H1 Z1 H' Z' ∧ Z' Dl = none ∧ H' Dl = some (.lst vs) ∧ Rps c.K Z' vs acc ∧ acc.length ≤ i ∧ I (items.take i) acc, ⟨items.length, by simp, Nat.zero_le _, Z1, [], [], .new s1.ok hD, s1.ok.none hD, upd_same, .nil, Nat.zero_le _, i0⟩, ?_⟩
  rintro i m H' ⟨rfl, hi, Z', vs, acc, st, zD, hD', rr, hl, ii⟩
  cases e : items[i]? with
  | none =>
    have hi' : i = items.length := by have := List.getElem?_eq_none_iff.mp e; omega
    subst hi'
    rw [List.take_length] at ii
    refine .inl ⟨(yl H' Z' st.le st.ok _).2 e, ?_⟩
    refine oPost.mono hS.ok s1 ⟨Z', .ol acc, st, .inr ⟨Dl, _, rfl, .of hD, zD, hD', .lst rr⟩, fin acc hl ii⟩
  | some x =>
    obtain ⟨go, yld⟩ := (yl H' Z' st.le st.ok i).1 x e
    have hlt : i < items.length := (List.getElem?_eq_some_iff.mp e).1
    have split : items = items.take i ++ x :: items.drop (i + 1) := by
      have h2 := (List.getElem?_eq_some_iff.mp e).2
      rw [← h2, ← List.drop_eq_getElem_cons hlt, List.take_append_drop]
    have snoc : items.take (i + 1) = items.take i ++ [x] := by
      have h2 := (List.getElem?_eq_some_iff.mp e).2
      rw [List.take_succ_eq_append_getElem hlt, h2]
    refine .inr ⟨go, fun H2 => i + 1 ≤ items.length ∧ ∃ Z' vs acc, Stp H1 Z1 H2 Z' ∧ Z' Dl = none ∧ H2 Dl = some (.lst vs) ∧ Rps c.K Z' vs acc ∧ acc.length ≤ i + 1 ∧ I (items.take (i + 1)) acc, fun H2 ⟨a1, a2⟩ => ⟨items.length - (i + 1), by omega, rfl, a1, a2⟩, fun v H2 y => ?_⟩
    obtain ⟨Z2, s2, rx⟩ := yld v H2 y
    have hS2 : Slots c.K H0 Z0 (wipe σ (own.map (·.2))) H2 Z2 (wipeD Δ (own.map (·.2))) := (((hS.step s1).step st).step s2).wipe _
    have hlen : (items.take i).length = i := by rw [List.length_take]; omega
    have tn := turn (items.take i) x (items.drop (i + 1)) acc split (by rw [hlen]; exact hl) ii
    intro s0 Hb C cl fp
    refine (tn _ H0 Z0 (hX.blk hh s0 Hb C cl fp) _ H2 Z2 v hS2 rx).mono fun σ3 H3 ⟨Z3, Δ3, s3, hS3, ks, q3⟩ => ⟨?_, ?_⟩
    · have e1 := wipe_same (σ := wipe σ (own.map (·.2))) (τ := σ3) ks.1 ks.2
      rw [e1]
      exact wipe_same (wipe_length _ _) fun i hi => wipe_get hi
    · intro s0 Hb C cl fp
      refine (wts_run q3 (hX.blk hh s0 Hb C cl fp) hS3).mono fun k H4 ⟨Z4, s4, q4⟩ => ?_
      have stp : Stp H1 Z1 H4 Z4 := ((st.trans s2).trans s3).trans s4
      have s234 := (s2.trans s3).trans s4
      have nl : Nbo (.lst vs) := ⟨fun ps e => (nomatch e), fun c q e => (nomatch (show _ = HO.ext _ from e))⟩
      have kept := s234.keep Dl _ hD' zD nl
      cases k with
      | true =>
        rw [if_pos rfl] at q4 ⊢
        intro s0 Hb C cl fp
        refine (q4 _ H0 Z0 (hX.blk hh s0 Hb C cl fp) _ H4 Z4 (hS3.step s4)).mono fun w H5 ⟨Z5, y, s5, ry, q5⟩ => ?_
        have k5 := s5.keep Dl _ kept.1 kept.2 nl
        have rr5 := (rr.le s234.le).le s5.le
        refine ⟨vs, k5.1, ?_, hlt, Z5, vs ++ [w], acc ++ [y], (stp.trans s5).own (.of hD) k5.2, k5.2, upd_same, rr5.append (.cons ry .nil), ?_, ?_⟩
        · rw [rr.length]; omega
        · rw [List.length_append]; show acc.length + 1 ≤ i + 1; omega
        · rw [snoc]; exact q5
      | false =>
        rw [if_neg Bool.false_ne_true] at q4 ⊢
        exact ⟨hlt, Z4, vs, acc, stp, kept.2, kept.1, rr.le s234.le, by omega, by rw [snoc]; exact q4⟩
/-- the side conditions of a block, by computation -/
def blkB (N : List Str) (sc scope : Scope) (own : List (Str × Nat)) : Bool :=
  scope.kind == .function && scope.names.all (fun y => scope.names.lookup y.1 == some y.2) && own.all (fun p => N[p.2]? == some p.1) &&
  scope.names.all (fun y => y.2 != .free || (sc.names.lookup y.1 == some .cell || sc.names.lookup y.1 == some .free)) &&
  scope.names.all (fun y => !(y.2 == .local || y.2 == .cell) || ((own.map (·.1)).contains y.1 || !N.contains y.1))
theorem blkOk_of {N : List Str} {sc scope : Scope} {own : List (Str × Nat)} (h : blkB N sc scope own = true) : BlkOk N sc scope own := by
  unfold blkB at h
  simp only [Bool.and_eq_true] at h
  obtain ⟨⟨⟨⟨h1, h2⟩, h3⟩, h4⟩, h5⟩ := h
  refine ⟨beq_iff_eq.mp h1, fun y hy => beq_iff_eq.mp (List.all_eq_true.mp h2 y hy), fun p hp => beq_iff_eq.mp (List.all_eq_true.mp h3 p hp), fun y hy e => ?_, fun y hy e => ?_⟩
  · have := List.all_eq_true.mp h4 y hy
    rw [e] at this
    have t : ((sc.names.lookup y.1 == some .cell || sc.names.lookup y.1 == some .free)) = true := this
    rw [Bool.or_eq_true] at t
    exact t.imp (fun q => beq_iff_eq.mp q) fun q => beq_iff_eq.mp q
  · have := List.all_eq_true.mp h5 y hy
    have e' : (y.2 == .local || y.2 == .cell) = true := by
      rcases e with e | e <;> rw [e] <;> rfl
    rw [e'] at this
    have t : ((own.map (·.1)).contains y.1 || !N.contains y.1) = true := this
    rw [Bool.or_eq_true] at t
    rcases t with t | t
    · exact .inl (List.contains_iff_mem.mp t)
    · right
      intro m
      rw [List.contains_iff_mem.mpr m] at t
      cases t
theorem wo_lc {elt tg iter : Expr} {ifs : List Expr} {scope : Scope} (own : List (Str × Nat)) (ok : blkB c.N c.sc scope own = true)
    (h : WI c tg iter (fun items => items.length ≤ sizeLine ∧ ∃ I : List D → List D → Prop, I [] [] ∧
      (∀ pre x post acc, items = pre ++ x :: post → acc.length ≤ pre.length → I pre acc → WG (c.blk scope) (own.map (·.2)) tg x (fun Δ2 => WTs (c.blk scope) ifs (fun k => if k = true then WE (c.blk scope) elt (fun y => I (pre ++ [x]) (acc ++ [y])) Δ2 else I (pre ++ [x]) acc) Δ2) (wipeD Δ (own.map (·.2)))) ∧
      ∀ acc, acc.length ≤ items.length → I items acc → Q (.ol acc)) Δ)
    (hs : ∀ env x, foldedSetIterable iter env x = pure x := by intro _ _; rfl) (hh : c.hot = none := by rfl) : WO c (.ListComp elt [⟨tg, iter, ifs, 0⟩] scope pos) Q Δ := fun X H0 Z0 hX σ H Z hS =>
  We.of (pe_lc (hX.calm hh) (by rw [hX.N]; exact hX.nd) pi_wi (by rw [hX.N, hX.sc]; exact blkOk_of ok) pg_b pt_b pe_b (hs X.env)) (lc_run h hh hX hS)
theorem we_lc {elt tg iter : Expr} {ifs : List Expr} {scope : Scope} (own : List (Str × Nat)) (ok : blkB c.N c.sc scope own = true)
    (h : WI c tg iter (fun items => items.length ≤ sizeLine ∧ ∃ I : List D → List D → Prop, I [] [] ∧
      (∀ pre x post acc, items = pre ++ x :: post → acc.length ≤ pre.length → I pre acc → WG (c.blk scope) (own.map (·.2)) tg x (fun Δ2 => WTs (c.blk scope) ifs (fun k => if k = true then WE (c.blk scope) elt (fun y => I (pre ++ [x]) (acc ++ [y])) Δ2 else I (pre ++ [x]) acc) Δ2) (wipeD Δ (own.map (·.2)))) ∧
      ∀ acc, acc.length ≤ items.length → I items acc → Q (.lst acc)) Δ)
    (hs : ∀ env x, foldedSetIterable iter env x = pure x := by intro _ _; rfl) (hh : c.hot = none := by rfl) : WE c (.ListComp elt [⟨tg, iter, ifs, 0⟩] scope pos) Q Δ := we_of_wo (wo_lc own ok h hs hh)
end
end DL
end
section
set_option Elab.async false
set_option linter.all false
set_option maxRecDepth 100000
set_option maxHeartbeats 4000000
/-! DL6: statements, defs. -/
namespace DL
open PySem PySem.Spec PyProof.Rows L2

/-- what is wanted behind statements -/
structure Te where
  nx : Dl → Prop
  rt : D → Dl → Prop
  bk : Dl → Prop := fun _ => False
  ct : Dl → Prop := fun _ => False
def liftE (K : PySem.W.Frag) (H0 : Hp) (Z0 Zs : Sh) (T : Te) : Ends where
  nx := fun σ H => ∃ Z Δ, Le Zs Z ∧ Slots K H0 Z0 σ H Z Δ ∧ T.nx Δ
  rt := fun v H => ∃ Z d σ Δ, Slots K H0 Z0 σ H Z Δ ∧ Rr K H0 H Z v d ∧ T.rt d Δ
  bk := fun σ H => ∃ Z Δ, Le Zs Z ∧ Slots K H0 Z0 σ H Z Δ ∧ T.bk Δ
  ct := fun σ H => ∃ Z Δ, Le Zs Z ∧ Slots K H0 Z0 σ H Z Δ ∧ T.ct Δ
structure CtxS (c : Cf) (H0 : Hp) (Z0 : Sh) (X : Cx) : Prop extends CtxOk c H0 Z0 X where
  own : PassesOwn (model X.prog X.w) X.A X.env X.xe
def WS (c : Cf) (st : Stmt) (T : Te) (Δ : Dl) : Prop := ∀ X H0 Z0, CtxS c H0 Z0 X → ∀ σ H Z, Slots c.K H0 Z0 σ H Z Δ → Ws X st (liftE c.K H0 Z0 Z T) σ H
def WB (c : Cf) (sts : List Stmt) (T : Te) (Δ : Dl) : Prop := ∀ X H0 Z0, CtxS c H0 Z0 X → ∀ σ H Z, Slots c.K H0 Z0 σ H Z Δ → Wss X sts (liftE c.K H0 Z0 Z T) σ H
section
variable {c : Cf} {e a b : Expr} {es : List Expr} {T : Te} {Δ : Dl} {pos : Pos} {st : Stmt} {sts : List Stmt}
theorem sp_mono {X : Cx} {pins : List (Addr × Obj)} {D D' : Ends} {f : Flow} {s' : Shared} (h : SP X pins D f s') (h1 : ∀ σ H, D.nx σ H → D'.nx σ H) (h2 : ∀ v H, D.rt v H → D'.rt v H) (h3 : ∀ σ H, D.bk σ H → D'.bk σ H) (h4 : ∀ σ H, D.ct σ H → D'.ct σ H) : SP X pins D' f s' := by
  cases f with
  | next => obtain ⟨σ', H', I, q⟩ := h; exact ⟨σ', H', I, h1 _ _ q⟩
  | brk => obtain ⟨σ', H', I, q⟩ := h; exact ⟨σ', H', I, h3 _ _ q⟩
  | cont => obtain ⟨σ', H', I, q⟩ := h; exact ⟨σ', H', I, h4 _ _ q⟩
  | ret u => obtain ⟨v, σ', H', I, r, q⟩ := h; exact ⟨v, σ', H', I, r, h2 _ _ q⟩
theorem lift_le {K : PySem.W.Frag} {H0 : Hp} {Z0 Z Z' : Sh} {X : Cx} {pins : List (Addr × Obj)} {f : Flow} {s' : Shared} (le : Le Z Z') (h : SP X pins (liftE K H0 Z0 Z' T) f s') : SP X pins (liftE K H0 Z0 Z T) f s' :=
  sp_mono h (fun _ _ ⟨Z2, Δ2, l, q⟩ => ⟨Z2, Δ2, le.trans l, q⟩) (fun _ _ q => q) (fun _ _ ⟨Z2, Δ2, l, q⟩ => ⟨Z2, Δ2, le.trans l, q⟩) fun _ _ ⟨Z2, Δ2, l, q⟩ => ⟨Z2, Δ2, le.trans l, q⟩
theorem Wss.le {K : PySem.W.Frag} {H0 : Hp} {Z0 Z Z' : Sh} {X : Cx} {σ : L2.St} {H : Hp} (le : Le Z Z') (h : Wss X sts (liftE K H0 Z0 Z' T) σ H) : Wss X sts (liftE K H0 Z0 Z T) σ H := fun pins s I => thn (h pins s I) fun _ _ q => lift_le le q
theorem wb_nil (q : T.nx Δ) : WB c [] T Δ := fun X H0 Z0 hX σ H Z hS => Wss.of pss_nil ⟨Z, Δ, .refl _, hS, q⟩
theorem wb_cons (h : WS c st { T with nx := fun Δ' => WB c sts T Δ' } Δ) : WB c (st :: sts) T Δ := fun X H0 Z0 hX σ H Z hS => by
  refine Wss.of (pss_cons ps_we pss_we) ?_
  intro pins s I
  refine thn (h X H0 Z0 hX σ H Z hS pins s I) fun f s' q => sp_mono q (fun σ' H' ⟨Z', Δ', le, hS', q'⟩ => ?_) (fun _ _ q => q) (fun _ _ q => q) fun _ _ q => q
  exact Wss.le le (q' X H0 Z0 hX σ' H' Z' hS')
/-- before a statement a thing of one's own is let go -/
theorem ws_freeze (i : Nat) {d : D} (hi : Δ[i]? = some (some d)) (ho : d.own = true) (h : WB c sts T (Δ.set i (some d.frz))) : WB c sts T Δ := fun X H0 Z0 hX σ H Z hS => by
  obtain ⟨Z', le, hS'⟩ := hS.freeze hi ho
  exact Wss.le le (h X H0 Z0 hX σ H Z' hS')
/-- what a slot holds is forgotten -/
theorem ws_drop (i : Nat) (h : WB c sts T (Δ.set i none)) : WB c sts T Δ := fun X H0 Z0 hX σ H Z hS => h X H0 Z0 hX σ H Z (hS.drop i)
theorem ws_pass (q : T.nx Δ) : WS c (.Pass pos) T Δ := fun X H0 Z0 hX σ H Z hS => Ws.of ps_pass ⟨Z, Δ, .refl _, hS, q⟩
theorem ws_break (q : T.bk Δ) : WS c (.Break pos) T Δ := fun X H0 Z0 hX σ H Z hS => Ws.of ps_break ⟨Z, Δ, .refl _, hS, q⟩
theorem ws_cont (q : T.ct Δ) : WS c (.Continue pos) T Δ := fun X H0 Z0 hX σ H Z hS => Ws.of ps_continue ⟨Z, Δ, .refl _, hS, q⟩
theorem Rr.base {K : PySem.W.Frag} {H0 H H' : Hp} {Z0 Z Z' : Sh} {v : V} {d : D} (ok0 : OkZ H0 Z0) (st : Stp H0 Z0 H Z) (r : Rr K H H' Z' v d) : Rr K H0 H' Z' v d := by
  rcases r with r | ⟨l, o, e, h0, z, hl, r⟩
  · exact .inl r
  · exact .inr ⟨l, o, e, st.freeF h0, z, hl, r⟩
theorem ws_ret (h : WO c e (fun d => T.rt d Δ) Δ) : WS c (.Return (some e) pos) T Δ := fun X H0 Z0 hX σ H Z hS =>
  Ws.of (ps_ret pe_we) ((h X H0 Z0 hX.toCtxOk σ H Z hS).mono fun v H1 ⟨Z1, d, s1, r1, q⟩ => ⟨Z1, d, σ, Δ, hS.step s1, r1.base hS.ok0 hS.stp, q⟩)
theorem ws_retN (q : T.rt .non Δ) : WS c (.Return none pos) T Δ := fun X H0 Z0 hX σ H Z hS => Ws.of ps_retN ⟨Z, .non, σ, Δ, hS, .inl .non, q⟩
/-- return of a thing of one's own -/
theorem ws_retO (i : Nat) {x : Str} {d : D} {p2 : Pos} (hN : c.N[i]? = some x) (hv : Vis c.sc x) (hi : Δ[i]? = some (some d)) (q : T.rt d Δ)
    (hd : (x == ("__debug__" : Str)) = false := by decide) (hcd : (x == ("__classdict__" : Str)) = false := by decide) : WS c (.Return (some (.Name x p2)) pos) T Δ := fun X H0 Z0 hX σ H Z hS => by
  obtain ⟨v, e1, r⟩ := hS.at_ i d hi
  exact Ws.of (ps_ret (pe_var (i := i) (by rw [hX.N]; exact hN) (by rw [hX.sc]; exact hv) hd hcd)) ⟨v, e1, Z, d, σ, Δ, hS, r, q⟩
theorem ws_expr {Q : D → Prop} (h : WO c e (fun _ => T.nx Δ) Δ) (hs : ∀ env, swapsWith e none pos.line env = pure false := by intro _; rfl) : WS c (.Expr e pos) T Δ := fun X H0 Z0 hX σ H Z hS =>
  Ws.of (ps_expr pe_we (hs _)) ((h X H0 Z0 hX.toCtxOk σ H Z hS).mono fun v H1 ⟨Z1, d, s1, r1, q⟩ => ⟨Z1, Δ, s1.le, hS.step s1, q⟩)
theorem ws_doc {x j pos'} (q : T.nx Δ) : WS c (.Expr (.Constant (.str x) j pos) pos') T Δ := fun X H0 Z0 hX σ H Z hS => Ws.of ps_doc ⟨Z, Δ, .refl _, hS, q⟩
theorem ws_if {t : Expr} {A B : List Stmt} (h : WT c t (fun k => if k = true then WB c A T Δ else WB c B T Δ) Δ) : WS c (.If t A B pos) T Δ := fun X H0 Z0 hX σ H Z hS => by
  refine Ws.of (ps_if pt_we pss_we pss_we) ((h X H0 Z0 hX.toCtxOk σ H Z hS).mono fun k H1 ⟨Z1, s1, q⟩ => ?_)
  cases k with
  | true =>
    rw [if_pos rfl] at q ⊢
    exact Wss.le s1.le (q X H0 Z0 hX σ H1 Z1 (hS.step s1))
  | false =>
    rw [if_neg Bool.false_ne_true] at q ⊢
    exact Wss.le s1.le (q X H0 Z0 hX σ H1 Z1 (hS.step s1))
/-- a statement, then the rest, with a word between them -/
theorem wb_cut (Mid : Dl → Prop) (h : WS c st { T with nx := Mid } Δ) (k : ∀ Δ', Mid Δ' → WB c sts T Δ') : WB c (st :: sts) T Δ := wb_cons fun X H0 Z0 hX σ H Z hS pins s I =>
  thn (h X H0 Z0 hX σ H Z hS pins s I) fun f s' q => sp_mono q (fun σ' H' ⟨Z', Δ', le, hS', q'⟩ => ⟨Z', Δ', le, hS', k Δ' q'⟩) (fun _ _ q => q) (fun _ _ q => q) fun _ _ q => q

/-! ### assignments -/
theorem CtxOk.loc {H0 Z0 X} (hX : CtxOk c H0 Z0 X) {x : Str} (hx : Loc c.sc x) : Loc X.env.scope x := by rw [hX.sc]; exact hx
/-- name = e, e no comprehension -/
theorem ws_set (i : Nat) {x : Str} {p : Pos} (hi : c.N[i]? = some x) (hx : Loc c.sc x) (h : WO c e (fun d => T.nx (Δ.set i (some d))) Δ) (hs : ∀ env, swapsWith e (some (.Name x p)) pos.line env = pure false := by intro _; rfl) (hst : c.st x = true := by rfl) :
    WS c (.Assign [.Name x p] e pos) T Δ := fun X H0 Z0 hX σ H Z hS =>
  Ws.of (ps_set (by rw [hX.N]; exact hX.nd) (by rw [hX.N]; exact hi) (hX.loc hx) pe_we (hs _) (by rw [hX.sc]; exact hX.fn x hst hx))
    ((h X H0 Z0 hX.toCtxOk σ H Z hS).mono fun v H1 ⟨Z1, d, s1, r1, q⟩ => ⟨Z1, _, s1.le, hS.setO s1 i r1, q⟩)
theorem swaps_cell {elt : Expr} {gs : List Comprehension} {scope : Scope} {p1 p : Pos} {x : Str} {line : Nat} {env : Env} (h : env.scope.names.lookup x = some .cell) : swapsWith (.ListComp elt gs scope p1) (some (.Name x p)) line env = pure false := by
  show (pure (env.blockKind == .function && env.kindOf x == some .local && p.line == p1.line && _) : Sem Bool) = pure false
  have e : env.kindOf x = some .cell := h
  rw [e, show (some NameKind.cell == some NameKind.local) = false from rfl, Bool.and_false, Bool.false_and, Bool.false_and]
/-- name = [..], the name captured elsewhere -/
theorem ws_setCell (i : Nat) {x : Str} {p p1 : Pos} {elt : Expr} {gs : List Comprehension} {scope : Scope} (hi : c.N[i]? = some x) (hx : c.sc.names.lookup x = some .cell) (h : WO c (.ListComp elt gs scope p1) (fun d => T.nx (Δ.set i (some d))) Δ) (hst : c.st x = true := by rfl) :
    WS c (.Assign [.Name x p] (.ListComp elt gs scope p1) pos) T Δ := fun X H0 Z0 hX σ H Z hS =>
  Ws.of (ps_set (by rw [hX.N]; exact hX.nd) (by rw [hX.N]; exact hi) (hX.loc (.inr hx)) pe_we (swaps_cell (by rw [hX.sc]; exact hx)) (by rw [hX.sc]; exact hX.fn x hst (.inr hx)))
    ((h X H0 Z0 hX.toCtxOk σ H Z hS).mono fun v H1 ⟨Z1, d, s1, r1, q⟩ => ⟨Z1, _, s1.le, hS.setO s1 i r1, q⟩)
/-- name = [..], the name a local, on one line -/
theorem ws_setLc (i : Nat) {x : Str} {p p1 : Pos} {elt tg iter : Expr} {ifs : List Expr} {scope : Scope} (own : List (Str × Nat)) (ok : blkB c.N c.sc scope own = true) (hi : c.N[i]? = some x) (hx : c.sc.names.lookup x = some .local)
    (h : WI c tg iter (fun items => items.length ≤ sizeLine ∧ ∃ I : List D → List D → Prop, I [] [] ∧
      (∀ pre x post acc, items = pre ++ x :: post → acc.length ≤ pre.length → I pre acc → WG (c.blk scope) (own.map (·.2)) tg x (fun Δ2 => WTs (c.blk scope) ifs (fun k => if k = true then WE (c.blk scope) elt (fun y => I (pre ++ [x]) (acc ++ [y])) Δ2 else I (pre ++ [x]) acc) Δ2) (wipeD Δ (own.map (·.2)))) ∧
      ∀ acc, acc.length ≤ items.length → I items acc → T.nx (Δ.set i (some (.ol acc)))) Δ)
    (hk : c.sc.kind = .function := by rfl) (hp : (p.line == p1.line) = true := by rfl) (hn : (scope.names.any fun (n, k) => n == x && (k == .local || k == .cell)) = false := by decide +kernel) (hs : ∀ env x, foldedSetIterable iter env x = pure x := by intro _ _; rfl) (hst : c.st x = true := by rfl) (hh : c.hot = none := by rfl) : WS c (.Assign [.Name x p] (.ListComp elt [⟨tg, iter, ifs, 0⟩] scope p1) pos) T Δ := fun X H0 Z0 hX σ H Z hS => by
  have hsw : ∀ line, swapsWith (.ListComp elt [⟨tg, iter, ifs, 0⟩] scope p1) (some (.Name x p)) line X.env = pure true := fun line => by
    show (pure (X.env.blockKind == .function && X.env.kindOf x == some .local && p.line == p1.line && !(scope.names.any fun (n, k) => n == x && (k == .local || k == .cell))) : Sem Bool) = pure true
    have e : X.env.kindOf x = some .local := by show X.env.scope.names.lookup x = _; rw [hX.sc]; exact hx
    have e2 : X.env.blockKind = .function := by
      unfold Env.blockKind
      rw [hX.sc, hk]; rfl
    rw [e, e2, hp, hn]; rfl
  refine Ws.of (ps_setLc (own := own) (wi := Wi X tg iter) (hX.calm hh) (by rw [hX.N]; exact hX.nd) (by rw [hX.N]; exact hi) (by rw [hX.sc]; exact hx) (hsw _) pi_wi (by rw [hX.N, hX.sc]; exact blkOk_of ok) pg_b pt_b pe_b (hs X.env)) ?_
  have r := lc_run (Q := fun d => T.nx (Δ.set i (some d))) h hh hX.toCtxOk hS
  -- the end of the reading is weakened
  have mono : ∀ {wi : TI} {g : TG} {tt : TT} {te : TE} {vs : List Nat} {Q Q' : VK}, (∀ {R R' : It → Hp → Prop}, (∀ J H', R J H' → R' J H') → wi σ H R → wi σ H R') → tLc wi g tt te vs σ H Q → (∀ v H', Q v H' → Q' v H') → tLc wi g tt te vs σ H Q' := fun {wi g tt te vs Q Q'} mw t k =>
    mw (fun J H' r Dl hD => by
      obtain ⟨W, w0, st⟩ := r Dl hD
      exact ⟨W, w0, fun i m H2 w => (st i m H2 w).imp (fun ⟨a, b⟩ => ⟨a, k _ _ b⟩) id⟩) t
  exact mono (fun k h => h.mono k) r fun v H1 ⟨Z1, d, s1, r1, q⟩ => ⟨Z1, _, s1.le, hS.setO s1 i r1, q⟩
/-- a, b = e (e no tuple that is written here) -/
theorem ws_unpack {ts : List Expr} {kk : Nat} {tp : Pos} (js : List Nat) (h : WE c e (fun d => WG c js (.Tuple ts kk tp) d T.nx Δ) Δ) (hs : ∀ env, swapsWithSole [.Tuple ts kk tp] e pos.line env = pure false := by intro _; rfl) (hw : ∀ env, swappedStores [.Tuple ts kk tp] e env = pure none := by intro _; rfl) :
    WS c (.Assign [.Tuple ts kk tp] e pos) T Δ := fun X H0 Z0 hX σ H Z hS =>
  Ws.of (ps_asg pe_we pg_we (hs _) (hw _) rfl) ((h X H0 Z0 hX.toCtxOk σ H Z hS).mono fun v H1 ⟨Z1, d, s1, r1, q⟩ =>
    (q X H0 Z0 hX.toCtxOk σ H1 Z1 v (hS.step s1) r1).mono fun σ2 H2 ⟨Z2, Δ2, s2, hS2, _, q2⟩ => ⟨Z2, Δ2, s1.le.trans s2.le, hS2, q2⟩)
/-- a, b = x, y, two locals -/
theorem ws_par (i j : Nat) {x y : Str} {px py pt : Pos} {kt k2 pt2} (hi : c.N[i]? = some x) (hj : c.N[j]? = some y) (hij : i ≠ j) (hx : c.sc.names.lookup x = some .local) (hy : c.sc.names.lookup y = some .local)
    (h : WA c [a, b] (fun ds => ∃ d1 d2, ds = [d1, d2] ∧ T.nx ((Δ.set i (some d1)).set j (some d2))) Δ)
    (hw : ∀ env : Env, env.scope = c.sc → swappedStores [.Tuple [.Name x px, .Name y py] kt pt] (.Tuple [a, b] k2 pt2) env = pure (some [x, y])) (hh : c.hot = none := by rfl) : WS c (.Assign [.Tuple [.Name x px, .Name y py] kt pt] (.Tuple [a, b] k2 pt2) pos) T Δ := fun X H0 Z0 hX σ H Z hS =>
  Ws.of (ps_par (hX.calm hh) (by rw [hX.N]; exact hX.nd) (by rw [hX.N]; exact hi) (by rw [hX.N]; exact hj) hij (by rw [hX.sc]; exact hx) (by rw [hX.sc]; exact hy) pa_we (hw _ hX.sc) rfl)
    ((h X H0 Z0 hX.toCtxOk σ H Z hS).mono fun vs H1 ⟨Z1, ds, s1, r1, d1, d2, ed, q⟩ => by
      subst ed
      obtain ⟨v, w, rfl, rv, rw'⟩ := r1.two
      exact ⟨v, w, rfl, Z1, _, s1.le, ((hS.step s1).set i rv).set j rw', q⟩)
/-- xs[i] = e, xs one's own list -/
theorem ws_item (i : Nat) {x : Str} {p p2 : Pos} {ds : List D} (hN : c.N[i]? = some x) (hv : Vis c.sc x) (hi : Δ[i]? = some (some (.ol ds)))
    (h : WE c e (fun y => WE c b (fun ix => ∃ n k, ix = .int n ∧ ixN ds.length n = some k ∧ T.nx (Δ.set i (some (.ol (ds.set k y))))) Δ) Δ) (hs : ∀ env, swapsWithSole [.Subscript (.Name x p) b p2] e pos.line env = pure false := by intro _; rfl)
    (hw : ∀ env, swappedStores [.Subscript (.Name x p) b p2] e env = pure none := by intro _; rfl)
    (ha : ∀ env v, assign (.Subscript (.Name x p) b p2) env v = (do
      let ov ← holding [v] (eval (.Name x p) env)
      let iv ← holding [v, ov] (eval b env)
      standAt p2
      holding [v, ov, iv] (setItem ov iv v)
      release [v, ov, iv] []) := by intro _ _; rfl)
    (hd : (x == ("__debug__" : Str)) = false := by decide) (hcd : (x == ("__classdict__" : Str)) = false := by decide) :
    WS c (.Assign [.Subscript (.Name x p) b p2] e pos) T Δ := fun X H0 Z0 hX σ H Z hS => by
  refine Ws.of (ps_asg pe_we (pg_sub (pe_var (i := i) (by rw [hX.N]; exact hN) (by rw [hX.sc]; exact hv) hd hcd) pe_we set_list (ha _)) (hs _) (hw _) rfl) ?_
  refine (h X H0 Z0 hX.toCtxOk σ H Z hS).mono fun v H1 ⟨Z1, y, s1, ry, q1⟩ => ?_
  have hS1 := hS.step s1
  obtain ⟨l, o, e1, h0, zl, hl, r⟩ := hS1.getO hi rfl
  refine ⟨_, e1, ?_⟩
  refine (q1 X H0 Z0 hX.toCtxOk σ H1 Z1 hS1).mono fun u H2 ⟨Z2, ix, s2, ri, n, k, en, hk, q⟩ => ?_
  subst en; cases ri
  have hS2 := hS1.step s2
  obtain ⟨l2, o2, e2, _, _, hl2, r2⟩ := hS2.getO hi rfl
  rw [e1] at e2; cases e2
  cases r2 with
  | lst rr => exact ⟨l, _, n, k, rfl, rfl, hl2, by rw [rr.length]; exact hk, Z2, _, s1.le.trans s2.le, hS2.put hi rfl e1 (.lst (rr.set (ry.le s2.le) k)), q⟩
/-- xs.append(e), xs one's own list -/
theorem ws_app (i : Nat) {x : Str} {p ap cp : Pos} {ds : List D} (hN : c.N[i]? = some x) (hv : Vis c.sc x) (hi : Δ[i]? = some (some (.ol ds)))
    (h : WE c e (fun y => ds.length < sizeLine ∧ T.nx (Δ.set i (some (.ol (ds ++ [y]))))) Δ) (hse : isStar e = false := by rfl) (hline : (ap.endLine == cp.line) = true := by rfl) (hs : ∀ env, swapsWith (.Call (.Attribute (.Name x p) "append" ap) [e] [] cp) none pos.line env = pure false := by intro _; rfl)
    (hd : (x == ("__debug__" : Str)) = false := by decide) (hcd : (x == ("__classdict__" : Str)) = false := by decide) :
    WS c (.Expr (.Call (.Attribute (.Name x p) "append" ap) [e] [] cp) pos) T Δ := fun X H0 Z0 hX σ H Z hS => by
  refine Ws.of (ps_expr (pe_bm PySem.F.plainAttrs_list PySem.F.slot_list_append PySem.F.type_list_append mt_append (pe_var (i := i) (by rw [hX.N]; exact hN) (by rw [hX.sc]; exact hv) hd hcd) (pa_cons pe_we pa_nil (star1 hse)) rfl (by rw [star1 hse]; rfl) hline (star1 hse) rfl) (hs _)) ?_
  obtain ⟨l, o, e1, h0, zl, hl, r⟩ := hS.getO hi rfl
  cases r with
  | lst rr =>
    rename_i vs
    refine ⟨_, e1, .inl ⟨rfl, _, .of hl⟩, ?_⟩
    refine (h X H0 Z0 hX.toCtxOk σ H Z hS).mono fun v H1 ⟨Z1, y, s1, ry, hz, q⟩ => ?_
    have k := s1.keep l _ hl zl ⟨fun ps e => (nomatch e), fun c q e => (nomatch (show _ = HO.ext _ from e))⟩
    exact ⟨l, vs, v, rfl, rfl, k.1, by rw [rr.length]; exact hz, Z1, _, s1.le, (hS.step s1).put hi rfl e1 (.lst ((rr.le s1.le).append (.cons ry .nil))), q⟩
/-- x += e on ints -/
theorem ws_augAdd (i : Nat) {x : Str} {p : Pos} {n : Int} (hN : c.N[i]? = some x) (hx : Loc c.sc x) (hi : Δ[i]? = some (some (.int n))) (h : WE c e (fun y => ∃ m, y = .int m ∧ T.nx (Δ.set i (some (.int (n + m))))) Δ) (hst : c.st x = true := by rfl) :
    WS c (.AugAssign (.Name x p) .Add e pos) T Δ := fun X H0 Z0 hX σ H Z hS => by
  refine Ws.of (ps_aug (by rw [hX.N]; exact hX.nd) (by rw [hX.N]; exact hN) (hX.loc hx) pe_we ip_add (by rw [hX.sc]; exact hX.fn x hst hx)) ?_
  obtain ⟨v, e1, r⟩ := hS.get hi rfl
  cases r
  exact ⟨_, e1, (h X H0 Z0 hX.toCtxOk σ H Z hS).mono fun u H1 ⟨Z1, y, s1, ry, m, ey, q⟩ => by subst ey; cases ry; exact ⟨n, m, rfl, rfl, Z1, _, s1.le, (hS.step s1).set i .int, q⟩⟩

/-! ### loops -/
theorem split_at {α : Type} {items : List α} {i : Nat} {x : α} (e : items[i]? = some x) : items = items.take i ++ x :: items.drop (i + 1) ∧ items.take (i + 1) = items.take i ++ [x] := by
  have hlt : i < items.length := (List.getElem?_eq_some_iff.mp e).1
  have h2 := (List.getElem?_eq_some_iff.mp e).2
  constructor
  · rw [← h2, ← List.drop_eq_getElem_cons hlt, List.take_append_drop]
  · rw [List.take_succ_eq_append_getElem hlt, h2]
theorem ws_for {tg iter : Expr} {body : List Stmt} (js : List Nat) (h : WI c tg iter (fun items => ∃ I : List D → Dl → Prop, I [] Δ ∧
      (∀ pre x post Δ', items = pre ++ x :: post → I pre Δ' → WG c js tg x (fun Δ2 => WB c body ⟨I (pre ++ [x]), T.rt, T.nx, I (pre ++ [x])⟩ Δ2) Δ') ∧ ∀ Δ', I items Δ' → T.nx Δ') Δ)
    (hs : ∀ env x, foldedSetIterable iter env x = pure x := by intro _ _; rfl) (hh : c.hot = none := by rfl) : WS c (.For tg iter body [] pos) T Δ := fun X H0 Z0 hX σ H Z hS => by
  refine Ws.of (ps_for hX.own (hX.calm hh) pi_wi pg_we pss_we (hs _)) ?_
  refine (h X H0 Z0 hX.toCtxOk σ H Z hS).mono fun J H1 ⟨Z1, items, s1, yl, I, i0, turn, fin⟩ => ?_
  refine ⟨fun i m σ' H' => m = items.length - i ∧ i ≤ items.length ∧ ∃ Z' Δ', Le Z1 Z' ∧ Slots c.K H0 Z0 σ' H' Z' Δ' ∧ I (items.take i) Δ', ⟨items.length, by simp, Nat.zero_le _, Z1, Δ, .refl _, hS.step s1, i0⟩, ?_⟩
  rintro i m σ' H' ⟨rfl, hi, Z', Δ', le, hS', ii⟩
  cases e : items[i]? with
  | none =>
    have hi' : i = items.length := by have := List.getElem?_eq_none_iff.mp e; omega
    subst hi'
    rw [List.take_length] at ii
    exact .inl ⟨(yl H' Z' le hS'.ok _).2 e, Z', Δ', s1.le.trans le, hS', fin Δ' ii⟩
  | some x =>
    obtain ⟨go, yld⟩ := (yl H' Z' le hS'.ok i).1 x e
    obtain ⟨sp1, sp2⟩ := split_at e
    have hlt : i < items.length := (List.getElem?_eq_some_iff.mp e).1
    refine .inr ⟨go, fun σ2 H2 => i + 1 ≤ items.length ∧ ∃ Z' Δ', Le Z1 Z' ∧ Slots c.K H0 Z0 σ2 H2 Z' Δ' ∧ I (items.take (i + 1)) Δ', fun σ2 H2 ⟨a1, a2⟩ => ⟨items.length - (i + 1), by omega, rfl, a1, a2⟩, fun v H2 y => ?_⟩
    obtain ⟨Z2, s2, rx⟩ := yld v H2 y
    refine (turn _ x _ Δ' sp1 ii X H0 Z0 hX.toCtxOk σ' H2 Z2 v (hS'.step s2) rx).mono fun σ3 H3 ⟨Z3, Δ3, s3, hS3, _, q3⟩ => ?_
    intro pins s I'
    have le3 : Le Z1 Z3 := (le.trans s2.le).trans s3.le
    refine thn (q3 X H0 Z0 hX σ3 H3 Z3 hS3 pins s I') fun f s' q => sp_mono q (fun σ4 H4 ⟨Z4, Δ4, l4, hS4, q4⟩ => ⟨hlt, Z4, Δ4, le3.trans l4, hS4, by rw [sp2]; exact q4⟩) (fun _ _ q => q)
      (fun σ4 H4 ⟨Z4, Δ4, l4, hS4, q4⟩ => ⟨Z4, Δ4, (s1.le.trans le3).trans l4, hS4, q4⟩) (fun σ4 H4 ⟨Z4, Δ4, l4, hS4, q4⟩ => ⟨hlt, Z4, Δ4, le3.trans l4, hS4, by rw [sp2]; exact q4⟩)
/-- while, by a word and a number that falls -/
theorem ws_while {t : Expr} {body : List Stmt} (I : Nat → Dl → Prop) (m0 : Nat) (h0 : I m0 Δ)
    (h : ∀ m Δ', I m Δ' → WT c t (fun k => if k = true then WB c body ⟨fun Δ2 => ∃ m', m' < m ∧ I m' Δ2, T.rt, T.nx, fun Δ2 => ∃ m', m' < m ∧ I m' Δ2⟩ Δ' else T.nx Δ') Δ') : WS c (.While t body [] pos) T Δ := fun X H0 Z0 hX σ H Z hS => by
  refine Ws.of (ps_while hX.own pt_we pss_we) ?_
  refine ⟨fun m σ' H' => ∃ Z' Δ', Le Z Z' ∧ Slots c.K H0 Z0 σ' H' Z' Δ' ∧ I m Δ', ⟨m0, Z, Δ, .refl _, hS, h0⟩, ?_⟩
  rintro m σ' H' ⟨Z', Δ', le, hS', ii⟩
  refine (h m Δ' ii X H0 Z0 hX.toCtxOk σ' H' Z' hS').mono fun k H2 ⟨Z2, s2, q⟩ => ?_
  cases k with
  | true =>
    rw [if_pos rfl] at q ⊢
    refine ⟨fun σ3 H3 => ∃ m', m' < m ∧ ∃ Z' Δ', Le Z Z' ∧ Slots c.K H0 Z0 σ3 H3 Z' Δ' ∧ I m' Δ', fun σ3 H3 q => q, ?_⟩
    intro pins s I'
    refine thn (q X H0 Z0 hX σ' H2 Z2 (hS'.step s2) pins s I') fun f s' q => sp_mono q (fun σ4 H4 ⟨Z4, Δ4, l4, hS4, m', hm, q4⟩ => ⟨m', hm, Z4, Δ4, (le.trans s2.le).trans l4, hS4, q4⟩) (fun _ _ q => q)
      (fun σ4 H4 ⟨Z4, Δ4, l4, hS4, q4⟩ => ⟨Z4, Δ4, (le.trans s2.le).trans l4, hS4, q4⟩) (fun σ4 H4 ⟨Z4, Δ4, l4, hS4, m', hm, q4⟩ => ⟨m', hm, Z4, Δ4, (le.trans s2.le).trans l4, hS4, q4⟩)
  | false =>
    rw [if_neg Bool.false_ne_true] at q ⊢
    exact ⟨Z2, Δ', le.trans s2.le, hS'.step s2, q⟩
end

/-! ### defs -/
def startD (N : List Str) (ds : List D) : Dl := ds.map some ++ List.replicate (N.length - ds.length) none
theorem slots_start {K : PySem.W.Frag} {H : Hp} {Z : Sh} {N : List Str} {vs : List V} {ds : List D} (ok : OkZ H Z) (r : Rps K Z vs ds) : Slots K H Z (L2.start N vs) H Z (startD N ds) := by
  refine ⟨ok, .refl ok, ?_, fun i d e => ?_, fun i j d d' l e1 e2 o1 => ?_⟩
  · unfold L2.start startD
    rw [List.length_append, List.length_append, List.length_map, List.length_map, r.length, List.length_replicate, List.length_replicate]
  · unfold startD at e
    by_cases hi : i < ds.length
    · rw [List.getElem?_append_left (by simpa using hi), List.getElem?_map] at e
      cases q : ds[i]? with
      | none => rw [q] at e; cases e
      | some d' =>
        rw [q] at e; cases e
        obtain ⟨v, hv, rv⟩ := r.get q
        refine ⟨v, ?_, .inl rv⟩
        unfold L2.start
        rw [List.getElem?_append_left (by rw [List.length_map, r.length]; exact hi), List.getElem?_map, hv]; rfl
    · rw [List.getElem?_append_right (by simpa using hi), List.getElem?_replicate] at e
      split at e <;> cases e
  · unfold startD at e1
    by_cases hi : i < ds.length
    · rw [List.getElem?_append_left (by simpa using hi), List.getElem?_map] at e1
      cases q : ds[i]? with
      | none => rw [q] at e1; cases e1
      | some d2 =>
        rw [q] at e1; cases e1
        obtain ⟨v, hv, rv⟩ := r.get q
        rw [not_own rv] at o1; cases o1
    · rw [List.getElem?_append_right (by simpa using hi), List.getElem?_replicate] at e1
      split at e1 <;> cases e1
section
variable {P : Program} {w : World} {K : PySem.W.Frag} {mg : Str → Option Value} {base : Heap}
/-- THE RULE for a def: its body over data -/
theorem def_ok {x qual : Str} {st : Stmt} {f : Addr} {fd : FuncData} {N ps : List Str} {k : Nat} {sp : DSp} (F : Fun K x qual st f fd) (S : FnScope N ps (defScope st)) (len : ∀ ds Q E, sp ds Q E → ds.length = ps.length)
    (h : ∀ ds Q E, sp ds Q E → WB ⟨P, w, K, mg, base, N, defScope st, k, E, fun _ => true, none, none⟩ (defBody st) ⟨fun _ => Q .non, fun d _ => Q d, fun _ => False, fun _ => False⟩ (startD N ds)) : FnOk P w K mg base (L2.CX P w) (k + 1) f fd ps (lift K sp) := by
  refine F.okX S (fun vs H Q E ⟨Z, ds, Q0, E0, ok, r, hs, _⟩ => by rw [r.length]; exact len ds Q0 E0 hs) fun cdv A outer s H vs Q E hr hsp => ?_
  obtain ⟨Z, ds, Q0, E0, ok, r, hs, kq, ke⟩ := hsp
  refine ⟨_, pss_we, ?_⟩
  have tk : Takes (cxOf (L2.CX P w) P w K mg base N qual (defScope st) f cdv A outer s H E) (fun cls d _ H => E cls d H) := takes_of rfl rfl rfl rfl
  have hX : CtxS ⟨P, w, K, mg, base, N, defScope st, k, E0, fun _ => true, none, none⟩ H Z (cxOf (L2.CX P w) P w K mg base N qual (defScope st) f cdv A outer s H E) :=
    { P := rfl, w := rfl, K := rfl, mg := rfl, base := rfl, N := rfl, sc := rfl, calm := fun _ => rfl, su := fun _ _ _ z => (nomatch z), lm := fun _ z => (nomatch z), room := fun _ => hr, nd := S.nd, fn := fun _ _ _ => .inl rfl,
      tk := tk.imp fun cls d σ H' ⟨Z', y, st', rx, hw⟩ => ke y hw cls d H' Z' st' rx, own := passes_of rfl }
  intro pins s' I
  refine thn (h ds Q0 E0 hs _ H Z hX (L2.start N vs) H Z (slots_start ok r) pins s' I) fun fl s2 q => sp_mono q (fun σ' H' ⟨Z', Δ', _, hS, q⟩ => ?_) (fun v H' ⟨Z', d, σ', Δ', hS, rr, q⟩ => kq d q v H' Z' hS.stp rr) (fun _ _ ⟨_, _, _, _, q⟩ => q.elim) fun _ _ ⟨_, _, _, _, q⟩ => q.elim
  exact kq .non q .non H' Z' hS.stp (.inl .non)
end
end DL
end
section
set_option Elab.async false
set_option linter.all false
set_option maxRecDepth 100000
set_option maxHeartbeats 4000000
/-! DL7: in over a list of instances with their own ==; own classes made; fields stored; enumerate of a tuple. -/
namespace GQ
open PySem PySem.SeqAt
open AutoSeq1 (wpAny_loadPart')
open MeetsSeq MeetsSeq2 MeetsSeq3 SeqRoads2
section
variable {prog : Program} {w : World} {A : Around} {R : Result → Shared → Prop} {E : Value → Shared → Prop} {s : Shared}
/-- at each turn the list is read anew: the i-th item is equal to x, or not, as bs says -/
def HasI (prog : Program) (w : World) (A : Around) (E : Value → Shared → Prop) (l : Addr) (x : Value) (N : Nat) (bs : Nat → Bool) (I : Nat → Shared → Prop) : Prop :=
  ∀ i s, I i s → ∃ (items : Array Value) (n : Nat), s.heap.get? l = some { cls := .type "list", data := .seq items n } ∧ items.size = N ∧
    ∀ (h1 : i < items.size), wpAny (model prog w) A.in1 (eqBool items[i] x) (fun r s' => r = bs i ∧ I (i + 1) s') E s
theorem has_loopG (l : Addr) (x : Value) (N : Nat) (bs : Nat → Bool) (I : Nat → Shared → Prop) (hl : HasI prog w A (fun e s' => R (.error e) s') l x N bs I)
    (yes : ∀ i s, i < N → (∀ j, j < i → bs j = false) → bs i = true → I (i + 1) s → R (.ok (.ret (.bool true))) s) (no : ∀ s, (∀ j, j < N → bs j = false) → I N s → R (.ok (.ret (.bool false))) s) (k : Nat) :
    ∀ i : Nat, N - i = k → i ≤ N → (∀ j, j < i → bs j = false) → ∀ s, I i s →
      wpAny (model prog w) A.in1 (Builtin.«list.__contains__.loop» ⟨[.ref l, x, rawInt i], []⟩) (FinOf prog w A R) (fun e s' => R (.error e) s') s := by
  induction k with
  | zero =>
    intro i hk hi hb s h
    obtain ⟨items, n, hl1, hs1, _⟩ := hl _ _ h
    have hi' : i = N := by omega
    have hR : R (.ok (.ret (.bool false))) s := no s (fun j hj => hb j (by omega)) (hi' ▸ h)
    obtain ⟨hp, g, d, tk, os⟩ := s
    wp_walk using wpAny_loadPart' hl1
    have hi1 : items[((i : Nat) : Int).toNat]? = none := by simp; omega
    rw [hi1]
    wp_walk
    exact hR
  | succ k ih =>
    intro i hk hi hb s h
    obtain ⟨items, n, hl1, hs1, turn⟩ := hl _ _ h
    have hlt : i < items.size := by omega
    have ht := turn hlt
    obtain ⟨hp, g, d, tk, os⟩ := s
    wp_walk using wpAny_loadPart' hl1
    have hi1 : items[((i : Nat) : Int).toNat]? = some items[i] := by simp [hlt]
    have hc : ((i : Int) + 1) = ((i + 1 : Nat) : Int) := by omega
    rw [hi1]
    refine wpAny_bind (wpAny_mono ht (fun r s2 h2 => ?_) fun _ _ x => x)
    obtain ⟨hr, h2⟩ := h2
    subst hr
    cases hbi : bs i with
    | true =>
      have hR := yes i s2 (by omega) hb hbi h2
      obtain ⟨hp2, g2, d2, tk2, os2⟩ := s2
      wp_walk
      exact hR
    | false =>
      have hrec := ih (i + 1) (by omega) (by omega) (fun j hj => by
        by_cases e : j = i
        · rw [e]; exact hbi
        · exact hb j (by omega)) s2 h2
      obtain ⟨hp2, g2, d2, tk2, os2⟩ := s2
      wp_walk
      rw [hc]
      exact ⟨plainId_quiet plain_contains_loop _, codeAny_builtin entry_contains_loop (by
        rw [Around.under_plainId plain_contains_loop _]
        exact hrec)⟩
theorem list_hasG (l : Addr) (x : Value) (N : Nat) (bs : Nat → Bool) (I : Nat → Shared → Prop) (hl : HasI prog w A (fun e s' => R (.error e) s') l x N bs I)
    (yes : ∀ i s, i < N → (∀ j, j < i → bs j = false) → bs i = true → I (i + 1) s → R (.ok (.ret (.bool true))) s) (no : ∀ s, (∀ j, j < N → bs j = false) → I N s → R (.ok (.ret (.bool false))) s) {s : Shared} (h : I 0 s) :
    wpAny (model prog w) A.in1 (Builtin.«list.__contains__» ⟨[.ref l, x], []⟩) (FinOf prog w A R) (fun e s' => R (.error e) s') s := by
  obtain ⟨items, n, hl1, hs1, _⟩ := hl _ _ h
  have hrec := has_loopG (A := A) (R := R) l x N bs I hl yes no _ 0 rfl (Nat.zero_le _) (fun j hj => absurd hj (Nat.not_lt_zero j)) s h
  obtain ⟨hp, g, d, tk, os⟩ := s
  wp_walk using wpAny_loadPart' hl1
  exact ⟨plainId_quiet plain_contains_loop _, codeAny_builtin entry_contains_loop (by
    rw [Around.under_plainId plain_contains_loop _]
    exact hrec)⟩
theorem in_listG {l : Addr} {x : Value} (N : Nat) (bs : Nat → Bool) (I : Nat → Shared → Prop) {Q : Value → Shared → Prop} (hl : HasI prog w A E l x N bs I)
    (yes : ∀ i s, i < N → (∀ j, j < i → bs j = false) → bs i = true → I (i + 1) s → Q (.bool true) s) (no : ∀ s, (∀ j, j < N → bs j = false) → I N s → Q (.bool false) s) (h : I 0 s) :
    wpAny (model prog w) A (compareOp .In x (.ref l)) Q E s := by
  obtain ⟨items, n, hl1, _, _⟩ := hl _ _ h
  show wpAny _ A (do return .bool (← contains (.ref l) x)) Q E s
  refine wpAny_bind (wpAny_contains_slot ⟨_, hl1, rfl⟩ F.slot_list_contains (wpAny_mono (Q := fun v s' => ∃ b, v = .bool b ∧ Q (.bool b) s') (call_here F.slot_list_contains ⟨_, hl1, rfl⟩ F.entry_list_contains (F.args_list_contains_2 _ _) ?_) (fun v s' hv => ?_) fun _ _ e => e))
  · exact list_hasG (R := wants (fun v s' => ∃ b, v = .bool b ∧ Q (.bool b) s') E) l x N bs I hl (fun i s' a b c' d => ⟨true, rfl, yes i s' a b c' d⟩) (fun s' a b => ⟨false, rfl, no s' a b⟩) h
  · obtain ⟨b, rfl, hq⟩ := hv
    exact wpAny_truthy_bool (wpAny_pure hq)
theorem notIn_listG {l : Addr} {x : Value} (N : Nat) (bs : Nat → Bool) (I : Nat → Shared → Prop) {Q : Value → Shared → Prop} (hl : HasI prog w A E l x N bs I)
    (yes : ∀ i s, i < N → (∀ j, j < i → bs j = false) → bs i = true → I (i + 1) s → Q (.bool false) s) (no : ∀ s, (∀ j, j < N → bs j = false) → I N s → Q (.bool true) s) (h : I 0 s) :
    wpAny (model prog w) A (compareOp .NotIn x (.ref l)) Q E s := by
  obtain ⟨items, n, hl1, _, _⟩ := hl _ _ h
  show wpAny _ A (do return .bool (!(← contains (.ref l) x))) Q E s
  refine wpAny_bind (wpAny_contains_slot ⟨_, hl1, rfl⟩ F.slot_list_contains (wpAny_mono (Q := fun v s' => ∃ b, v = .bool b ∧ Q (.bool (!b)) s') (call_here F.slot_list_contains ⟨_, hl1, rfl⟩ F.entry_list_contains (F.args_list_contains_2 _ _) ?_) (fun v s' hv => ?_) fun _ _ e => e))
  · exact list_hasG (R := wants (fun v s' => ∃ b, v = .bool b ∧ Q (.bool (!b)) s') E) l x N bs I hl (fun i s' a b c' d => ⟨true, rfl, yes i s' a b c' d⟩) (fun s' a b => ⟨false, rfl, no s' a b⟩) h
  · obtain ⟨b, rfl, hq⟩ := hv
    exact wpAny_truthy_bool (wpAny_pure hq)
end
end GQ
end
section
set_option Elab.async false
set_option linter.all false
set_option maxRecDepth 100000
set_option maxHeartbeats 4000000
/-! DL8: own == over data; own classes made; fields stored; enumerate of a tuple. -/
namespace DL
open PySem PySem.Spec PyProof.Rows L2
section
variable {c : Cf} {e a b : Expr} {es : List Expr} {Q : D → Prop} {T : Te} {Δ : Dl} {pos : Pos}

/-! ### == of two instances of a class with its own == -/
theorem rc_own {X : Cx} {n : Nat} {f C : Addr} {fd : FuncData} {ps : List Str} {sp : Sp} {A : Around} {pins : List (Addr × Obj)} {s : Shared} {σ : L2.St} {H : Hp} {a b dx dy : Addr} {fs gs : List (Str × V)} {Q0 : VK} {E : XK}
    (F : FnOk X.prog X.w X.K X.mg X.base (L2.CX X.prog X.w) n f fd ps sp) (hs : PySem.W.findIn X.K (.ref C) "__eq__" = some (some (.ref f))) (hf : PySem.W.isFn X.K (.ref f) = true) (hb : Binds X.K fd ps []) (hx : Passes (L2.CX X.prog X.w) X E)
    (sb : Sub X n A) (I : Inv X pins σ H s) (ha : H a = some (.ins C dx fs)) (hb' : H b = some (.ins C dy gs)) (hsp : sp [.ref a, .ref b] H Q0 E) (hq : ∀ v H', Q0 v H' → ∃ k, v = .bl k) :
    wpAny (model X.prog X.w) A (richCompare .Eq (.ref a) (.ref b)) (fun r s' => ∃ k H', r = .bool k ∧ Inv X pins σ H' s' ∧ Q0 (.bl k) H') X.xe s := by
  obtain ⟨mA, J, _⟩ := ins_get I.hok ha
  obtain ⟨mB, J', _⟩ := ins_get I.hok hb'
  obtain ⟨od, J, _⟩ := J.look
  obtain ⟨od', J', _⟩ := J'.look
  obtain ⟨m, hF⟩ := I.fr
  refine PySem.W.cmp_K (op := .Eq) (tb := .ref C) sb.room.units0 hF I.ok.mod.kin J J'.type (by simp [PySem.W.notFirst]) hs hf ?_
  have e0 : Env0 X.prog X.w X.K X.mg X.base A X.stack s H := by
    have e := I.env0
    exact ⟨by rw [sb.fr]; exact e.frames, e.mod, e.bs, e.bsz, e.funs, e.frf, e.hok, e.bare⟩
  have hl := F.len _ _ _ _ hsp
  have r2 : Vals [V.ref a, V.ref b] [Value.ref a, Value.ref b] := .cons rfl (.cons rfl .nil)
  refine wpAny_call (codeAny_mono (F.run A X.stack s H ⟨[.ref a, .ref b], []⟩ [.ref a, .ref b] [.ref a, .ref b] _ E sb.room e0 (by
    have := hb s [.ref a, .ref b] I.kIn (by simpa using hl)
    simpa using this) r2 hsp) fun r s' hq' => ?_)
  cases r with
  | error e => exact hx pins σ H s e s' I hq'
  | ok fl =>
    cases fl with
    | ret w =>
      obtain ⟨z, H', I', rz, ez⟩ := I.after hq'
      obtain ⟨k, rfl⟩ := hq z H' ez
      cases rz
      exact ⟨k, H', rfl, I', ez⟩
    | next => exact False.elim hq'
    | brk => exact False.elim hq'
    | cont => exact False.elim hq'
/-- an own == of the class at C over data: dom says for which fields, eqF what it answers -/
structure EqM (P : Program) (w : World) (K : PySem.W.Frag) (mg : Str → Option Value) (base : Heap) (j : Nat) (C : Addr) (ns : List Str) (dom : List D → Prop) (eqF : List D → List D → Bool) : Prop where
  ex : ∃ f fd ps, PySem.W.findIn K (.ref C) "__eq__" = some (some (.ref f)) ∧ PySem.W.isFn K (.ref f) = true ∧ Binds K fd ps [] ∧
    FnOk P w K mg base (L2.CX P w) j f fd ps (lift K fun ds Q _ => ∃ x y, ds = [.ins C ns x, .ins C ns y] ∧ dom x ∧ dom y ∧ Q (.bl (eqF x y)))
theorem CtxOk.passesW {H0 Z0 X} (hX : CtxOk c H0 Z0 X) : Passes (L2.CX X.prog X.w) X (fun cls d H => liftX c.K c.W H0 Z0 cls d ([] : L2.St) H) := passes_call hX.tk fun _ _ _ _ h => h
theorem eq_own {H0 Z0 X} (hX : CtxOk c H0 Z0 X) {j : Nat} {C : Addr} {ns : List Str} {dom : List D → Prop} {eqF : List D → List D → Bool} (M : EqM c.P c.w c.K c.mg c.base j C ns dom eqF)
    {A : Around} {pins : List (Addr × Obj)} {s : Shared} {σ : L2.St} {H H1 : Hp} {Z Z1 : Sh} {v u : V} {vv uu : Value} {x y : List D} (sb : Sub X j A) (I : Inv X pins σ H1 s) (st : Stp H Z H1 Z1) (rv : RelV v vv) (ru : RelV u uu) (r1 : Rp c.K Z1 v (.ins C ns x)) (r2 : Rp c.K Z1 u (.ins C ns y)) (dx : dom x) (dy : dom y)
    (stp0 : ∀ Z' H', Stp H Z H' Z' → True) (ref : v = u → eqF x y = true) :
    wpAny (model X.prog X.w) A (eqBool vv uu) (fun r s' => r = eqF x y ∧ ∃ H' Z', Inv X pins σ H' s' ∧ Stp H Z H' Z') X.xe s := by
  obtain ⟨p, dx', vs, rfl, hp, _, _⟩ := r1.ins_inv st.ok
  obtain ⟨q, dy', ws, rfl, hq, _, _⟩ := r2.ins_inv st.ok
  cases rv; cases ru
  obtain ⟨f, fd, ps, hs, hf, hb, FF⟩ := M.ex
  by_cases hpq : p = q
  · subst hpq
    exact SeqAt.EqAt.same (A := A) (s := s) (.ref p) X.prog X.w X.xe _ ⟨(ref rfl).symm, H1, Z1, I, st⟩
  · refine GQ.eqBool_refG hpq (wpAny_mono (rc_own (hX.fnOk FF) (by rw [hX.K]; exact hs) (by rw [hX.K]; exact hf) (by rw [hX.K]; exact hb) (E := fun _ _ _ => False) (fun pins σ H s e s' I' h => by obtain ⟨_, _, _, _, _, _, _, _, _, _, _, _, z⟩ := h; exact z.elim) sb I hp hq
      (Q0 := fun v H' => v = .bl (eqF x y) ∧ ∃ Z', Stp H Z H' Z') ?_ (fun v H' ⟨e, _⟩ => ⟨_, e⟩)) (fun r s' hr => ?_) fun _ _ e => e)
    · exact ⟨Z1, [.ins C ns x, .ins C ns y], fun d => d = .bl (eqF x y), fun _ => False, st.ok, .cons r1 (.cons r2 .nil), ⟨x, y, rfl, dx, dy, rfl⟩, (fun d ed v H' Z' s' rr => by
        have ed : d = .bl (eqF x y) := ed
        subst ed
        rcases rr with rr | ⟨_, _, _, _, _, _, rr⟩
        · cases rr; exact ⟨rfl, Z', st.trans s'⟩
        · cases rr), fun _ z => z.elim⟩
    · obtain ⟨k, H', rfl, I', ek, Z', s'⟩ := hr
      cases ek
      exact ⟨_, rfl, rfl, H', Z', I', s'⟩
theorem any_map {α β : Type} (g : α → β) (f : β → Bool) (l : List α) : (l.map g).any f = l.any fun x => f (g x) := by
  induction l with
  | nil => rfl
  | cons a l ih => rw [List.map_cons, List.any_cons, List.any_cons, ih]
theorem any_false {α : Type} {f : α → Bool} : ∀ {l : List α}, (∀ (j : Nat) (x : α), l[j]? = some x → f x = false) → l.any f = false
  | [], _ => rfl
  | a :: l, h => by
    rw [List.any_cons, h 0 a rfl, any_false fun j x e => h (j + 1) x (by simpa using e)]; rfl
theorem any_true {α : Type} {f : α → Bool} {l : List α} {i : Nat} {x : α} (e : l[i]? = some x) (h : f x = true) : l.any f = true :=
  List.any_eq_true.mpr ⟨x, List.mem_of_getElem? e, h⟩
/-- x in xs, x not in xs: instances of a class with its own == -/
theorem vo_niOwn {j : Nat} {C : Addr} {ns : List Str} {dom : List D → Prop} {eqF : List D → List D → Bool} (M : EqM c.P c.w c.K c.mg c.base j C ns dom eqF) (hj : j < c.k) {x : List D} {ls : List (List D)} (hx : dom x) (hl : ∀ l ∈ ls, dom l)
    (ref : ∀ Z v l, l ∈ ls → Rp c.K Z v (.ins C ns l) → Rp c.K Z v (.ins C ns x) → eqF l x = true) (q : Q (.bl (!ls.any fun l => eqF l x))) (hh : c.hot = none := by rfl) : VO c (compareOp .NotIn) (.ins C ns x) (.lst (ls.map (.ins C ns))) Q := fun X H0 Z0 hX H Z v u ok r1 r2 => by
  obtain ⟨p, vs, rfl, hp, zp, rr⟩ := r2.lst_inv ok
  refine ⟨fun y z H' Q' => y = v ∧ z = .ref p ∧ H' = H ∧ ∀ H2 Z2, Stp H Z H2 Z2 → Q' (.bl (!ls.any fun l => eqF l x)) H2, ?_, rfl, rfl, rfl, fun H2 Z2 s2 => ⟨Z2, _, s2, .inl .bl, q⟩⟩
  intro pins s σ H' y z vv uu Q' I ry rz ⟨e1, e2, e3, k⟩
  subst e1; subst e2; subst e3
  cases rz
  have len : vs.length = ls.length := by rw [rr.length, List.length_map]
  refine GQ.notIn_listG ls.length (fun i => match ls[i]? with | some l => eqF l x | none => false) (fun _ s' => ∃ H2 Z2, Inv X pins σ H2 s' ∧ Stp H' Z H2 Z2) (fun i s' ⟨H2, Z2, I2, s2⟩ => ?_) (fun i s' hi hb hbi ⟨H2, Z2, I2, s2⟩ => ?_) (fun s' hb ⟨H2, Z2, I2, s2⟩ => ?_) ⟨H', Z, I, .refl ok⟩
  · obtain ⟨z1, its, k1, rv, e⟩ := I2.hok p _ (fz_at s2.le s2.ok zp)
    refine ⟨its.toArray, k1, e, by rw [List.size_toArray, ← rv.length, len], fun h1 => ?_⟩
    have hi : i < its.length := by simpa using h1
    have hiv : i < vs.length := by rw [rv.length]; exact hi
    have hil : i < ls.length := by omega
    obtain ⟨w, hw, rw'⟩ := rv.get (List.getElem?_eq_getElem hiv)
    have ew : its.toArray[i] = w := by
      rw [List.getElem?_eq_getElem hi] at hw
      simpa using Option.some.inj hw
    obtain ⟨d, hd, rd⟩ := rr.getV (List.getElem?_eq_getElem hiv)
    rw [List.getElem?_map, List.getElem?_eq_getElem hil] at hd
    cases hd
    rw [ew]
    have hm : ls[i] ∈ ls := List.getElem_mem hil
    have := eq_own hX M (A := X.A.in1) (s := s') (Z1 := Z2) (H1 := H2) ⟨((hX.room hh).mono hj).in1, rfl⟩ I2 s2 rw' ry (rd.le s2.le) (r1.le s2.le) (hl _ hm) hx (fun _ _ _ => trivial) (fun ev => ref Z2 _ ls[i] hm (rd.le s2.le) (by rw [ev]; exact r1.le s2.le))
    refine wpAny_mono this (fun r s3 ⟨hr, q3⟩ => ⟨?_, q3⟩) fun _ _ e => e
    show r = (match ls[i]? with | some l => eqF l x | none => false)
    rw [hr, List.getElem?_eq_getElem hil]
  · have hbi : (match ls[i]? with | some l => eqF l x | none => false) = true := hbi
    rw [List.getElem?_eq_getElem hi] at hbi
    have t : (ls.any fun l => eqF l x) = true := any_true (List.getElem?_eq_getElem hi) hbi
    rw [t] at k
    exact ⟨.bl false, H2, I2, rfl, k H2 Z2 s2⟩
  · have t : (ls.any fun l => eqF l x) = false := any_false fun m l e => by
      have : (match ls[m]? with | some l => eqF l x | none => false) = false := hb m (List.getElem?_eq_some_iff.mp e).1
      rw [e] at this; exact this
    rw [t] at k
    exact ⟨.bl true, H2, I2, rfl, k H2 Z2 s2⟩

/-! ### own classes -/
abbrev ISp := List D → (List Str → List D → Prop) → (XD → Prop) → Prop
def hideA (H : Hp) (x : Addr) : Hp := fun a => if a = x then none else H a
/-- what __init__ promises, at a fresh instance -/
def liftI (K : PySem.W.Frag) (C : Addr) (sp : ISp) : Sp := fun vs H Q E => ∃ x dx ws Z ds Q0 E0, vs = .ref x :: ws ∧ H x = some (.ins C dx []) ∧ Z x = none ∧ OkZ H Z ∧ Rps K Z ws ds ∧ sp ds Q0 E0 ∧
  (∀ ns l, Q0 ns l → ∀ H' Z' o, Stp (hideA H x) Z H' Z' → Z' x = none → H' x = some o → Ow K Z' x o (.oi x C ns l) → Q .non H') ∧
  ∀ y, E0 y → ∀ cls d H' Z', Stp (hideA H x) Z H' Z' → RX K Z' H' cls d y → E cls d H'
theorem okz_hide {H : Hp} {Z : Sh} {x : Addr} (ok : OkZ H Z) (z : Z x = none) : OkZ (hideA H x) Z := fun a φ h => by
  obtain ⟨o, ho, q⟩ := ok a φ h
  have ne : a ≠ x := fun e => by rw [e, z] at h; cases h
  exact ⟨o, by unfold hideA; rw [if_neg ne]; exact ho, q⟩
theorem stp_hide {H : Hp} {Z : Sh} {x : Addr} (ok : OkZ H Z) : Stp (hideA H x) Z H Z := by
  have up : ∀ {a : Addr} {o : HO}, hideA H x a = some o → H a = some o := fun {a o} h => by
    unfold hideA at h
    split at h
    · cases h
    · exact h
  exact ⟨Le.refl Z, ok, fun a o h z _ => ⟨up h, z⟩, fun P q t => by
    obtain ⟨nt, z, ps, h1, h2, h3⟩ := t
    exact ⟨nt, z, ps, up h1, h2, h3⟩, fun _ _ z => z, fun a o h n => ⟨o, up h, n⟩⟩
theorem slots_startI {K : PySem.W.Frag} {H : Hp} {Z : Sh} {N : List Str} {ws : List V} {ds : List D} {x C dx : Addr} (ok : OkZ H Z) (zx : Z x = none) (hx : H x = some (.ins C dx [])) (r : Rps K Z ws ds) :
    Slots K (hideA H x) Z (L2.start N (.ref x :: ws)) H Z (startD N (.oi x C [] [] :: ds)) := by
  have gets : ∀ (i : Nat) (d : D), (startD N (.oi x C [] [] :: ds))[i]? = some (some d) → (i = 0 ∧ d = .oi x C [] []) ∨ ∃ m v, i = m + 1 ∧ ds[m]? = some d ∧ ws[m]? = some v ∧ Rp K Z v d ∧ (L2.start N (.ref x :: ws))[i]? = some (some v) := fun i d e => by
    cases i with
    | zero => unfold startD at e; simp at e; exact .inl ⟨rfl, e.symm⟩
    | succ m =>
      right
      unfold startD at e
      by_cases hi : m < ds.length
      · rw [List.getElem?_append_left (by simpa using hi), List.getElem?_map] at e
        rw [List.getElem?_cons_succ] at e
        cases q : ds[m]? with
        | none => rw [q] at e; cases e
        | some d' =>
          rw [q] at e; cases e
          obtain ⟨v, hv, rv⟩ := r.get q
          refine ⟨m, v, rfl, q, hv, rv, ?_⟩
          unfold L2.start
          rw [List.getElem?_append_left (by rw [List.length_map, List.length_cons, r.length]; omega), List.getElem?_map, List.getElem?_cons_succ, hv]; rfl
      · rw [List.getElem?_append_right (by simpa using hi), List.getElem?_replicate] at e
        split at e <;> cases e
  refine ⟨okz_hide ok zx, stp_hide ok, ?_, fun i d e => ?_, fun i j d d' l e1 e2 o1 o2 _ _ => ?_⟩
  · unfold L2.start startD
    rw [List.length_append, List.length_append, List.length_map, List.length_map, List.length_cons, List.length_cons, r.length, List.length_replicate, List.length_replicate]
  · rcases gets i d e with ⟨rfl, rfl⟩ | ⟨m, v, rfl, _, _, rv, es⟩
    · refine ⟨.ref x, by unfold L2.start; simp, .inr ⟨x, _, rfl, .of (by unfold hideA; rw [if_pos rfl]), zx, hx, .ins (ns := []) (vs := []) (dx := dx) rfl .nil⟩⟩
    · exact ⟨v, es, .inl rv⟩
  · rcases gets i d e1 with ⟨rfl, rfl⟩ | ⟨m, v, rfl, _, _, rv, _⟩
    · rcases gets j d' e2 with ⟨rfl, rfl⟩ | ⟨m, v, rfl, _, _, rv, _⟩
      · rfl
      · rw [not_own rv] at o2; cases o2
    · rw [not_own rv] at o1; cases o1
end
section
variable {P : Program} {w : World} {K : PySem.W.Frag} {mg : Str → Option Value} {base : Heap}
/-- THE RULE for an __init__ -/
theorem init_ok {x qual : Str} {st : Stmt} {f C : Addr} {fd : FuncData} {N ps : List Str} {k : Nat} {sp : ISp} (F : Fun K x qual st f fd) (S : FnScope N ps (defScope st)) (len : ∀ ds Q E, sp ds Q E → ds.length + 1 = ps.length)
    (h : ∀ a ds Q E, sp ds Q E → WB ⟨P, w, K, mg, base, N, defScope st, k, E, fun _ => true, none, none⟩ (defBody st) ⟨fun Δ => ∃ ns l, Δ[0]? = some (some (.oi a C ns l)) ∧ Q ns l, fun _ _ => False, fun _ => False, fun _ => False⟩ (startD N (.oi a C [] [] :: ds))) :
    FnOk P w K mg base (L2.CX P w) (k + 1) f fd ps (liftI K C sp) := by
  refine F.okX S (fun vs H Q E ⟨x, dx, ws, Z, ds, Q0, E0, ev, _, _, _, r, hs, _⟩ => by rw [ev, List.length_cons, r.length]; exact len ds Q0 E0 hs) fun cdv A outer s H vs Q E hr hsp => ?_
  obtain ⟨a, dx, ws, Z, ds, Q0, E0, rfl, ha, za, ok, r, hs, kq, ke⟩ := hsp
  refine ⟨_, pss_we, ?_⟩
  have tk : Takes (cxOf (L2.CX P w) P w K mg base N qual (defScope st) f cdv A outer s H E) (fun cls d _ H => E cls d H) := takes_of rfl rfl rfl rfl
  have hX : CtxS ⟨P, w, K, mg, base, N, defScope st, k, E0, fun _ => true, none, none⟩ (hideA H a) Z (cxOf (L2.CX P w) P w K mg base N qual (defScope st) f cdv A outer s H E) :=
    { P := rfl, w := rfl, K := rfl, mg := rfl, base := rfl, N := rfl, sc := rfl, calm := fun _ => rfl, su := fun _ _ _ z => (nomatch z), lm := fun _ z => (nomatch z), room := fun _ => hr, nd := S.nd, fn := fun _ _ _ => .inl rfl,
      tk := tk.imp fun cls d σ H' ⟨Z', y, st', rx, hw⟩ => ke y hw cls d H' Z' st' rx, own := passes_of rfl }
  intro pins s' I
  refine thn (h a ds Q0 E0 hs _ _ Z hX _ H Z (slots_startI ok za ha r) pins s' I) fun fl s2 q => sp_mono q (fun σ' H' ⟨Z', Δ', _, hS, ns, l, e, qq⟩ => ?_) (fun v H' ⟨Z', d, σ', Δ', hS, rr, q⟩ => q.elim) (fun _ _ ⟨_, _, _, _, q⟩ => q.elim) fun _ _ ⟨_, _, _, _, q⟩ => q.elim
  obtain ⟨l', o, _, _, zl, hl, ow⟩ := hS.getO e rfl
  have el : l' = a := by cases ow; rfl
  subst el
  exact kq ns l qq H' Z' o hS.stp zl hl ow
end
/-- the class x of the module, by its __init__'s promise -/
structure Mkr (P : Program) (w : World) (K : PySem.W.Frag) (mg : Str → Option Value) (base : Heap) (j : Nat) (x : Str) (C : Addr) (sp : ISp) : Prop where
  ex : ∃ f fd ps, mg x = some (.ref C) ∧ Mk K C f ∧ Binds K fd ps [] ∧ FnOk P w K mg base (L2.CX P w) j f fd ps (liftI K C sp)
section
variable {c : Cf} {e a b : Expr} {es : List Expr} {Q : D → Prop} {T : Te} {Δ : Dl} {pos : Pos}
theorem wo_make {x : Str} {p : Pos} {j : Nat} {C : Addr} {sp : ISp} (F : Mkr c.P c.w c.K c.mg c.base j x C sp) (hj : j + 1 ≤ c.k) (hg : Glo c x) (h : WA c (e :: es) (fun ds => sp ds (fun ns l => ∀ a, Q (.oi a C ns l)) c.W) Δ) (hs : (e :: es).any isStar = false := by rfl)
    (hdb : (x == ("__debug__" : Str)) = false := by decide) (hh : c.hot = none := by rfl) : WO c (.Call (.Name x p) (e :: es) [] pos) Q Δ := fun X H0 Z0 hX σ H Z hS => by
  rw [List.any_cons, Bool.or_eq_false_iff] at hs
  obtain ⟨f, fd, ps, hm, M, hb, FF⟩ := F.ex
  refine We.of (pe_make (by rw [hX.K]; exact M) (hX.fnOk FF) ((hX.room hh).mono hj) (hX.gl hg) (by rw [hX.mg]; exact hm) (by rw [hX.K]; exact hb) .nil hX.passes pa_we hdb (star1 hs.1) (star0 hs.2)) ?_
  refine (h X H0 Z0 hX σ H Z hS).mono fun vs H1 ⟨Z1, ds, s1, r1, q1⟩ => fun x dx hx hdx ne => ?_
  rw [List.append_nil]
  have zx := s1.ok.none hx
  have zdx := s1.ok.none hdx
  have ok2 : OkZ (upd (upd H1 dx (.own x)) x (.ins C dx [])) Z1 := ((Stp.new s1.ok hdx).own (.of hx) zx).ok
  -- a step from the heap without the instance is one from the heap ahead
  have back : ∀ {H' : Hp} {Z' : Sh}, Stp (hideA (upd (upd H1 dx (.own x)) x (.ins C dx [])) x) Z1 H' Z' → Stp H1 Z1 H' Z' := fun {H' Z'} s => by
    have same : ∀ {a : Addr} {o : HO}, H1 a = some o → hideA (upd (upd H1 dx (.own x)) x (.ins C dx [])) x a = some o := fun {a o} h => by
      have n1 : a ≠ x := ne_of_none h hx
      have n2 : a ≠ dx := ne_of_none h hdx
      unfold hideA
      rw [if_neg n1, upd_ne n1, upd_ne n2]; exact h
    exact ⟨s.le, s.ok, fun a o h z n => s.keep a o (same h) z n, fun P q t => s.tab P q (by
      obtain ⟨nt, z, ps, h1, h2, h3⟩ := t
      exact ⟨nt, z, ps, same h1, h2, h3⟩), s.tb, fun a o h n => s.stays a o (same h) n⟩
  refine ⟨x, dx, vs, Z1, ds, _, _, rfl, upd_same, zx, ok2, r1, q1, fun ns l q H' Z' o s zo ho ow => ⟨rfl, ?_⟩, fun y hy cls d H' Z' s rx => ?_⟩
  · exact oPost.mono hS.ok s1 ⟨Z', _, back s, .inr ⟨x, o, rfl, .of hx, zo, ho, ow⟩, q x⟩
  · exact ⟨Z', y, (hS.stp.trans s1).trans (back s), rx, hy⟩
theorem we_make {x : Str} {p : Pos} {j : Nat} {C : Addr} {sp : ISp} (F : Mkr c.P c.w c.K c.mg c.base j x C sp) (hj : j + 1 ≤ c.k) (hg : Glo c x) (h : WA c (e :: es) (fun ds => sp ds (fun ns l => ∀ _ : Addr, Q (.ins C ns l)) c.W) Δ) (hs : (e :: es).any isStar = false := by rfl)
    (hdb : (x == ("__debug__" : Str)) = false := by decide) (hh : c.hot = none := by rfl) : WE c (.Call (.Name x p) (e :: es) [] pos) Q Δ := we_of_wo (wo_make (hh := hh) F hj hg h hs hdb)
theorem zip_put {f : Str} {v : V} : ∀ {ns : List Str} {vs : List V}, ns.length = vs.length → ns.contains f = false → putF f v (ns.zip vs) = (ns ++ [f]).zip (vs ++ [v])
  | [], [], _, _ => rfl
  | n :: ns, u :: vs, hl, hn => by
    rw [List.contains_cons, Bool.or_eq_false_iff] at hn
    have h1 : n ≠ f := fun e => by rw [e] at hn; simp at hn
    show (if n = f then _ else (n, u) :: putF f v (ns.zip vs)) = (n, u) :: ((ns ++ [f]).zip (vs ++ [v]))
    rw [if_neg h1, zip_put (by simpa using hl) hn.2]
  | [], _ :: _, hl, _ => by simp at hl
  | _ :: _, [], hl, _ => by simp at hl
/-- self.f = e, a first store -/
theorem ws_fld (i : Nat) {x f : Str} {p p2 : Pos} {q C : Addr} {ns : List Str} {l : List D} (hN : c.N[i]? = some x) (hv : Vis c.sc x) (hi : Δ[i]? = some (some (.oi q C ns l))) (hC : Cls c.K C) (hn : NoAttr c.K C f) (hf : ns.contains f = false) (hl : ns.length < 1000)
    (h : WE c e (fun y => T.nx (Δ.set i (some (.oi q C (ns ++ [f]) (l ++ [y]))))) Δ) (hs : ∀ env, swapsWith e (some (.Attribute (.Name x p) f p2)) pos.line env = pure false := by intro _; rfl)
    (hd : (x == ("__debug__" : Str)) = false := by decide) (hcd : (x == ("__classdict__" : Str)) = false := by decide) : WS c (.Assign [.Attribute (.Name x p) f p2] e pos) T Δ := fun X H0 Z0 hX σ H Z hS => by
  refine Ws.of (ps_fld (pe_var (i := i) (by rw [hX.N]; exact hN) (by rw [hX.sc]; exact hv) hd hcd) pe_we (hs _)) ?_
  refine (h X H0 Z0 hX.toCtxOk σ H Z hS).mono fun v H1 ⟨Z1, y, s1, ry, q1⟩ => ?_
  have hS1 := hS.step s1
  obtain ⟨l', o, e1, h0, zl, hl', ow⟩ := hS1.getO hi rfl
  cases ow with
  | ins el rr =>
    rename_i dx vs
    have key := hS1.put hi rfl e1 (.ins (C := C) (dx := dx) (ns := ns ++ [f]) (vs := vs ++ [v]) (by rw [List.length_append, List.length_append, el]; rfl) (rr.append (.cons ry .nil)))
    rw [← zip_put el hf] at key
    refine ⟨_, e1, _, C, dx, _, rfl, hl', by rw [hX.K]; exact hC, by rw [hX.K]; exact hn, ?_, Z1, _, s1.le, key, q1⟩
    rw [List.length_zip, el, Nat.min_self, ← el]; exact hl
/-- a field of one's own instance -/
theorem we_fldO (i : Nat) {x f : Str} {p : Pos} {q C : Addr} {ns : List Str} {l : List D} {d : D} (hN : c.N[i]? = some x) (hv : Vis c.sc x) (hi : Δ[i]? = some (some (.oi q C ns l))) (hC : Cls c.K C) (hn : NoAttr c.K C f) (hf : (ns.zip l).lookup f = some d) (qq : Q d)
    (hb : ∀ env w, attributeBase (.Name x p) f env w = w := by intro _ _; rfl)
    (hd : (x == ("__debug__" : Str)) = false := by decide) (hcd : (x == ("__classdict__" : Str)) = false := by decide) : WE c (.Attribute (.Name x p) f pos) Q Δ := fun X H0 Z0 hX σ H Z hS => by
  refine We.of (pe_fld (pe_var (i := i) (by rw [hX.N]; exact hN) (by rw [hX.sc]; exact hv) hd hcd) (hb _ _)) ?_
  obtain ⟨l', o, e1, h0, zl, hl', ow⟩ := hS.getO hi rfl
  cases ow with
  | ins el rr =>
    obtain ⟨w, hw, rw'⟩ := rr.lookup hf
    exact ⟨_, e1, _, C, _, _, w, rfl, hl', by rw [hX.K]; exact hC, by rw [hX.K]; exact hn, hw, Z, d, .refl hS.ok, rw', qq⟩
end
end DL
end
section
set_option Elab.async false
set_option linter.all false
set_option maxRecDepth 100000
set_option maxHeartbeats 4000000
/-! DL9: dicts of one's own; the pen. -/
namespace DL
open PySem PySem.Spec PyProof.Rows L2
section
variable {κ : Type} [DecidableEq κ]
def lookD : List κ → List D → κ → Option D
  | k' :: ks, d :: ds, k => if k' = k then some d else lookD ks ds k
  | _, _, _ => none
def setD : List κ → List D → κ → D → List D
  | k' :: ks, d :: ds, k, x => (if k' = k then x else d) :: setD ks ds k x
  | _, _, _, _ => []
theorem look_rel {K : PySem.W.Frag} {Z : Sh} : ∀ {ks : List κ} {vs : List V} {ds : List D} {k : κ}, Rps K Z vs ds → (lookD ks ds k = none → valV (ks.zip vs) k = none) ∧ ∀ d, lookD ks ds k = some d → ∃ v, valV (ks.zip vs) k = some v ∧ Rp K Z v d
  | [], vs, ds, k, r => ⟨fun _ => by cases vs <;> rfl, fun d h => by cases ds <;> cases h⟩
  | k' :: ks, _, _, k, .nil => ⟨fun _ => rfl, fun d h => by cases h⟩
  | k' :: ks, _, _, k, .cons (v := v) (d := d0) r t => by
    have ih := look_rel (ks := ks) (k := k) t
    by_cases e : k' = k
    · refine ⟨fun h => ?_, fun d h => ?_⟩
      · unfold lookD at h; rw [if_pos e] at h; cases h
      · unfold lookD at h; rw [if_pos e] at h; cases h
        exact ⟨v, by rw [List.zip_cons_cons]; exact valV_pos e, r⟩
    · refine ⟨fun h => ?_, fun d h => ?_⟩
      · unfold lookD at h; rw [if_neg e] at h
        rw [List.zip_cons_cons, valV_neg (show ¬ (k', v).1 = k from e)]; exact ih.1 h
      · unfold lookD at h; rw [if_neg e] at h
        rw [List.zip_cons_cons, valV_neg (show ¬ (k', v).1 = k from e)]; exact ih.2 d h
theorem setD_len : ∀ {ks : List κ} {ds : List D} {k : κ} {x : D}, ks.length = ds.length → (setD ks ds k x).length = ds.length
  | [], [], _, _, _ => rfl
  | _ :: ks, _ :: ds, k, x, h => by unfold setD; rw [List.length_cons, setD_len (by simpa using h)]; rfl
  | [], _ :: _, _, _, h => by simp at h
  | _ :: _, [], _, _, h => by simp at h
theorem any_key : ∀ {ks : List κ} {vs : List V} {k : κ}, ks.length = vs.length → ((ks.zip vs).any fun kv => decide (kv.1 = k)) = decide (k ∈ ks)
  | [], [], _, _ => by simp
  | k' :: ks, v :: vs, k, h => by
    rw [List.zip_cons_cons, List.any_cons, any_key (by simpa using h)]
    by_cases e : k' = k
    · subst e; simp
    · have e' : ¬ k = k' := fun z => e z.symm
      simp [e, e']
  | [], _ :: _, _, h => by simp at h
  | _ :: _, [], _, h => by simp at h
/-- the pairs behind d[k] = x, the key there already -/
theorem put_old {K : PySem.W.Frag} {Z : Sh} {k : κ} {v : V} {x : D} (rx : Rp K Z v x) : ∀ {ks : List κ} {vs : List V} {ds : List D}, ks.length = vs.length → Rps K Z vs ds → ∃ ws, (ks.zip vs).map (fun kv => if kv.1 = k then (kv.1, v) else kv) = ks.zip ws ∧ ks.length = ws.length ∧ Rps K Z ws (setD ks ds k x)
  | [], [], _, _, .nil => ⟨[], rfl, rfl, .nil⟩
  | k' :: ks, u :: vs, d :: ds, h, .cons r t => by
    obtain ⟨ws, e1, e2, e3⟩ := put_old rx (ks := ks) (by simpa using h) t
    by_cases e : k' = k
    · refine ⟨v :: ws, ?_, by simpa using e2, ?_⟩
      · rw [List.zip_cons_cons, List.map_cons, e1, if_pos e]; rfl
      · unfold setD; rw [if_pos e]; exact .cons rx e3
    · refine ⟨u :: ws, ?_, by simpa using e2, ?_⟩
      · rw [List.zip_cons_cons, List.map_cons, e1, if_neg e]; rfl
      · unfold setD; rw [if_neg e]; exact .cons r e3
  | [], _ :: _, _, h, _ => by simp at h
  | _ :: _, [], _, h, _ => by simp at h
def putKs (ks : List κ) (k : κ) : List κ := if k ∈ ks then ks else ks ++ [k]
def putDs (ks : List κ) (ds : List D) (k : κ) (x : D) : List D := if k ∈ ks then setD ks ds k x else ds ++ [x]
theorem put_rel {K : PySem.W.Frag} {Z : Sh} {k : κ} {v : V} {x : D} (rx : Rp K Z v x) {ks : List κ} {vs : List V} {ds : List D} (h : ks.length = vs.length) (r : Rps K Z vs ds) : ∃ ws, putK (ks.zip vs) k v = (putKs ks k).zip ws ∧ (putKs ks k).length = ws.length ∧ Rps K Z ws (putDs ks ds k x) := by
  unfold putK putKs putDs
  rw [any_key h]
  by_cases e : k ∈ ks
  · rw [if_pos (decide_eq_true e), if_pos e, if_pos e]
    exact put_old rx h r
  · rw [if_neg (by simp [e]), if_neg e, if_neg e]
    refine ⟨vs ++ [v], ?_, by simp [h], r.append (.cons rx .nil)⟩
    rw [List.zip_append h]; rfl
end
/-- the key that a plain value is -/
def D.key : D → Option Key
  | .int i => some (.inl i)
  | .str x => some (.inr x)
  | _ => none
theorem key_of {K : PySem.W.Frag} {Z : Sh} {v : V} {d : D} {k : Key} (h : d.key = some k) (r : Rp K Z v d) : v = kV k := by
  cases d with
  | int i => cases r; cases h; rfl
  | str x => cases r; cases h; rfl
  | _ => cases h
section
variable {c : Cf} {e a b : Expr} {es : List Expr} {Q : D → Prop} {T : Te} {Δ : Dl} {pos : Pos}
theorem CtxOk.hu {H0 Z0 X} (hX : CtxOk c H0 Z0 X) (hh : c.hot = none) : X.A.units + 1 < cLine := hu_of (hX.room hh)
/-- x[k], x one's own dict -/
theorem we_getK (i : Nat) {x : Str} {p : Pos} {q : Addr} {ks : List Key} {l : List D} (hN : c.N[i]? = some x) (hv : Vis c.sc x) (hi : Δ[i]? = some (some (.oK q ks l))) (h : WE c b (fun y => ∃ k d, y.key = some k ∧ lookD ks l k = some d ∧ Q d) Δ) (hs : NoSl b := by exact fun _ _ => rfl)
    (hd : (x == ("__debug__" : Str)) = false := by decide) (hcd : (x == ("__classdict__" : Str)) = false := by decide) (hh : c.hot = none := by rfl) : WE c (.Subscript (.Name x p) b pos) Q Δ := fun X H0 Z0 hX σ H Z hS => by
  refine We.of (pe_dget (hX.hu hh) (pe_var (i := i) (by rw [hX.N]; exact hN) (by rw [hX.sc]; exact hv) hd hcd) pe_we hs) ?_
  obtain ⟨l', o, e1, h0, zl, hl, ow⟩ := hS.getO hi rfl
  refine ⟨_, e1, ?_⟩
  refine (h X H0 Z0 hX σ H Z hS).mono fun v H1 ⟨Z1, y, s1, ry, k, d, hk, hlk, qq⟩ => ?_
  have kk := s1.keep l' o hl zl ow.nbo
  cases ow with
  | dK el rr =>
    obtain ⟨w, hw, rw'⟩ := (look_rel (ks := ks) (k := k) rr).2 d hlk
    have ev := key_of hk ry
    subst ev
    refine ⟨_, w, rfl, ?_, Z1, d, s1, rw'.le s1.le, qq⟩
    rw [← hw]; exact DGet.k kk.1
/-- x[k] = e, x one's own dict -/
theorem ws_putK (i : Nat) {x : Str} {p p2 : Pos} {q : Addr} {ks : List Key} {l : List D} (hN : c.N[i]? = some x) (hv : Vis c.sc x) (hi : Δ[i]? = some (some (.oK q ks l)))
    (h : WE c e (fun y => WE c b (fun kd => ∃ k, kd.key = some k ∧ ks.length < sizeLine ∧ T.nx (Δ.set i (some (.oK q (putKs ks k) (putDs ks l k y))))) Δ) Δ) (hs : ∀ env, swapsWith e (some (.Subscript (.Name x p) b p2)) pos.line env = pure false := by intro _; rfl)
    (hd : (x == ("__debug__" : Str)) = false := by decide) (hcd : (x == ("__classdict__" : Str)) = false := by decide) (hh : c.hot = none := by rfl) : WS c (.Assign [.Subscript (.Name x p) b p2] e pos) T Δ := fun X H0 Z0 hX σ H Z hS => by
  refine Ws.of (ps_dput (hX.hu hh) (pe_var (i := i) (by rw [hX.N]; exact hN) (by rw [hX.sc]; exact hv) hd hcd) pe_we pe_we (hs _)) ?_
  refine (h X H0 Z0 hX.toCtxOk σ H Z hS).mono fun v H1 ⟨Z1, y, s1, ry, q1⟩ => ?_
  have hS1 := hS.step s1
  obtain ⟨l', o, e1, h0, zl, hl, ow⟩ := hS1.getO hi rfl
  refine ⟨_, e1, ?_⟩
  refine (q1 X H0 Z0 hX.toCtxOk σ H1 Z1 hS1).mono fun u H2 ⟨Z2, kd, s2, rk, k, hk, hz, qq⟩ => ?_
  have kk := s2.keep l' o hl zl ow.nbo
  have ev := key_of hk rk
  subst ev
  cases ow with
  | dK el rr =>
    obtain ⟨ws, hw1, hw2, hw3⟩ := put_rel (k := k) (ry.le s2.le) el (rr.le s2.le)
    refine ⟨_, _, rfl, .k kk.1 (by rw [List.length_zip, ← el, Nat.min_self]; exact hz), Z2, _, s1.le.trans s2.le, ?_, qq⟩
    rw [hw1]
    exact (hS1.step s2).put hi rfl e1 (.dK hw2 hw3)
theorem we_inK (i : Nat) {x : Str} {p : Pos} {q : Addr} {ks : List Key} {l : List D} (hN : c.N[i]? = some x) (hv : Vis c.sc x) (hi : Δ[i]? = some (some (.oK q ks l))) (h : WE c a (fun y => ∃ k, y.key = some k ∧ Q (.bl (lookD ks l k).isSome)) Δ)
    (hd : (x == ("__debug__" : Str)) = false := by decide) (hcd : (x == ("__classdict__" : Str)) = false := by decide) (hh : c.hot = none := by rfl) : WE c (.Compare a [.In] [.Name x p] pos) Q Δ := fun X H0 Z0 hX σ H Z hS => by
  refine We.of (pe_cmp (pc_din (hX.hu hh) pe_we (pe_var (i := i) (by rw [hX.N]; exact hN) (by rw [hX.sc]; exact hv) hd hcd)) rfl) ?_
  refine (h X H0 Z0 hX σ H Z hS).mono fun v H1 ⟨Z1, y, s1, ry, k, hk, qq⟩ => ?_
  obtain ⟨l', o, e1, h0, zl, hl, ow⟩ := (hS.step s1).getO hi rfl
  have ev := key_of hk ry
  subst ev
  cases ow with
  | dK el rr =>
    refine ⟨_, e1, _, _, rfl, DGet.k hl, Z1, _, s1, ?_, qq⟩
    cases q2 : lookD ks l k with
    | none => rw [(look_rel (ks := ks) (k := k) rr).1 q2]; exact .bl
    | some d =>
      obtain ⟨w, hw, _⟩ := (look_rel (ks := ks) (k := k) rr).2 d q2
      rw [hw]; exact .bl
theorem we_niK (i : Nat) {x : Str} {p : Pos} {q : Addr} {ks : List Key} {l : List D} (hN : c.N[i]? = some x) (hv : Vis c.sc x) (hi : Δ[i]? = some (some (.oK q ks l))) (h : WE c a (fun y => ∃ k, y.key = some k ∧ Q (.bl (!(lookD ks l k).isSome))) Δ)
    (hd : (x == ("__debug__" : Str)) = false := by decide) (hcd : (x == ("__classdict__" : Str)) = false := by decide) (hh : c.hot = none := by rfl) : WE c (.Compare a [.NotIn] [.Name x p] pos) Q Δ := fun X H0 Z0 hX σ H Z hS => by
  refine We.of (pe_cmp (pc_dnotin (hX.hu hh) pe_we (pe_var (i := i) (by rw [hX.N]; exact hN) (by rw [hX.sc]; exact hv) hd hcd)) rfl) ?_
  refine (h X H0 Z0 hX σ H Z hS).mono fun v H1 ⟨Z1, y, s1, ry, k, hk, qq⟩ => ?_
  obtain ⟨l', o, e1, h0, zl, hl, ow⟩ := (hS.step s1).getO hi rfl
  have ev := key_of hk ry
  subst ev
  cases ow with
  | dK el rr =>
    refine ⟨_, e1, _, _, rfl, DGet.k hl, Z1, _, s1, ?_, qq⟩
    cases q2 : lookD ks l k with
    | none => rw [(look_rel (ks := ks) (k := k) rr).1 q2]; exact .bl
    | some d =>
      obtain ⟨w, hw, _⟩ := (look_rel (ks := ks) (k := k) rr).2 d q2
      rw [hw]; exact .bl
end
end DL
end
section
set_option Elab.async false
set_option linter.all false
set_option maxRecDepth 100000
set_option maxHeartbeats 4000000
/-! DL10: the script, the pen and its draws. -/
namespace DL
open PySem PySem.Spec PyProof.Rows L2
section
variable {c : Cf} {e a b : Expr} {es : List Expr} {Q : D → Prop} {T : Te} {Δ : Dl} {pos : Pos}
/-! ### the script -/
theorem Rp.scr_inv {K : PySem.W.Frag} {Z : Sh} {H : Hp} {v : V} {ns : List Int} (ok : OkZ H Z) (r : Rp K Z v (.scr ns)) : ∃ p, v = .ref p ∧ SqL K H p (ns.map V.int) ∧ ∀ H' Z', Le Z Z' → OkZ H' Z' → SqL K H' p (ns.map V.int) := by
  cases r with
  | scrK h => exact ⟨_, rfl, .inr h, fun _ _ _ _ => .inr h⟩
  | scrL z => exact ⟨_, rfl, .inl (.inl (fz_at (.refl _) ok z)), fun _ _ le ok' => .inl (.inl (fz_at le ok' z))⟩
  | scrF z => exact ⟨_, rfl, .inl (.inr ⟨_, fz_at (.refl _) ok z⟩), fun _ _ le ok' => .inl (.inr ⟨_, fz_at le ok' z⟩)⟩
theorem scr_inj {K : PySem.W.Frag} {Z : Sh} {H : Hp} {p : Addr} {ns : List Int} {ys : List V} (ok : OkZ H Z) (kz : ∀ a, K.lookup a ≠ none → Z a = none ∧ H a = none) (r : Rp K Z (.ref p) (.scr ns)) (h : SqL K H p ys) : ys = ns.map V.int := by
  cases r with
  | scrK hk =>
    obtain ⟨o, its, n, e1, _, _, e4, _, e6⟩ := hk
    obtain ⟨z, hz⟩ := kz p (by rw [e1]; simp)
    rcases h with (h | ⟨_, h⟩) | ⟨o', its', n', f1, _, _, f4, _, f6⟩
    · rw [hz] at h; cases h
    · rw [hz] at h; cases h
    · rw [e1] at f1; cases f1
      rw [e4] at f4; cases f4
      exact f6.inj e6
  | scrL z =>
    have hp := fz_at (.refl _) ok z
    rcases h with (h | ⟨_, h⟩) | ⟨o', its', n', f1, _⟩
    · rw [hp] at h; cases h; rfl
    · rw [hp] at h; cases h
    · have := (kz p (by rw [f1]; simp)).2; rw [hp] at this; cases this
  | scrF z =>
    have hp := fz_at (.refl _) ok z
    rcases h with (h | ⟨_, h⟩) | ⟨o', its', n', f1, _⟩
    · rw [hp] at h; cases h
    · rw [hp] at h; cases h; rfl
    · have := (kz p (by rw [f1]; simp)).2; rw [hp] at this; cases this
theorem vc_lstScr {ns : List Int} (q : Q (.ol (ns.map D.int))) : VC c (.type "list") [.scr ns] Q := fun X _ _ hX H Z vs ok r => by
  obtain ⟨v, rfl, r1⟩ := r.one
  obtain ⟨p, rfl, hp, _⟩ := r1.scr_inv ok
  exact ⟨_, call_list_of, p, _, rfl, .inl (by rw [hX.K]; exact hp), fun l hl => opost_newL ok hl (Rps.ints ns) q⟩
theorem vc_lenScr {ns : List Int} (q : Q (.int ns.length)) : VC c (.builtin "len") [.scr ns] Q := fun X _ _ hX H Z vs ok r => by
  obtain ⟨v, rfl, r1⟩ := r.one
  obtain ⟨p, rfl, hp, _⟩ := r1.scr_inv ok
  exact ⟨_, call_len_seq, p, _, rfl, .inl (by rw [hX.K]; exact hp), opost ok .int (by rw [List.length_map]; exact q)⟩
/-- for x in script -/
theorem wi_scr {tg : Expr} {Q : List D → Prop} (h : WE c e (fun d => ∃ ns, d = .scr ns ∧ Q (ns.map D.int)) Δ) : WI c tg e Q Δ := fun X H0 Z0 hX σ H Z hS => by
  refine Wi.of (pi_list pe_we) ((h X H0 Z0 hX σ H Z hS).mono fun v H1 ⟨Z1, d, s1, r1, ns, ed, q⟩ => ?_)
  subst ed
  obtain ⟨p, rfl, hp, later⟩ := r1.scr_inv s1.ok
  refine ⟨p, rfl, ⟨_, by rw [hX.K]; exact hp⟩, Z1, _, s1, fun H' Z' le ok i => ⟨fun x hx => ?_, fun hn => ?_⟩, q⟩
  · have hp' := later H' Z' le ok
    rw [List.getElem?_map] at hx
    cases e2 : ns[i]? with
    | none => rw [e2] at hx; cases hx
    | some n =>
      rw [e2] at hx; cases hx
      have hm : (ns.map V.int)[i]? = some (.int n) := by rw [List.getElem?_map, e2]; rfl
      rw [hX.K]
      exact ⟨⟨_, _, hp', hm⟩, fun v H'' ⟨e, k⟩ => by
        subst e
        have := k _ hp'
        rw [hm] at this; cases this
        exact ⟨Z', .refl ok, .int⟩⟩
  · rw [hX.K]
    refine ⟨_, later H' Z' le ok, ?_⟩
    have := List.getElem?_eq_none_iff.mp hn
    simpa using this

/-! ### the pen is made -/
theorem merge_new : ∀ {more acc : List (Key × V)}, ((acc ++ more).map (·.1)).Nodup → mergeK acc more = acc ++ more
  | [], acc, _ => by unfold mergeK; simp
  | (k, v) :: more, acc, h => by
    have hk : k ∉ acc.map (·.1) := by
      rw [List.map_append, List.map_cons] at h
      have := (List.nodup_append.mp h).2.2
      intro m
      exact this k m k List.mem_cons_self rfl
    have e1 : putK acc k v = acc ++ [(k, v)] := by
      unfold putK
      rw [if_neg]
      intro t
      obtain ⟨p, hp, e⟩ := List.any_eq_true.mp t
      exact hk (List.mem_map.mpr ⟨p, hp, of_decide_eq_true e⟩)
    have e2 : mergeK acc ((k, v) :: more) = mergeK (acc ++ [(k, v)]) more := by
      unfold mergeK
      rw [List.foldl_cons, e1]
    rw [e2, merge_new (by rw [List.append_assoc]; exact h), List.append_assoc]; rfl
def penK : List Key := [.inr "cells", .inr "at", .inr "digits", .inr "count", .inr "fold"]
theorem penK_nodup : penK.Nodup := by decide +kernel
theorem we_pen {v1 v2 v3 v4 v5 : Expr} {j1 j2 j3 j4 j5 : Nat} {p1 p2 p3 p4 p5 : Pos}
    (h : WE c v1 (fun d1 => ∃ ns : List Int, d1 = .lst (ns.map D.int) ∧ WE c v2 (fun d2 => ∃ a : Int, d2 = .int a ∧ 0 ≤ a ∧ WE c v3 (fun d3 => ∃ d : Int, d3 = .int d ∧ 0 ≤ d ∧ WE c v4 (fun d4 => ∃ k : Int, d4 = .int k ∧ WE c v5 (fun d5 => ∃ f : Int, d5 = .int f ∧ 0 ≤ f ∧ Q .pen) Δ) Δ) Δ) Δ) Δ) :
    WE c (.Dict [some (.Constant (.str "cells") j1 p1), some (.Constant (.str "at") j2 p2), some (.Constant (.str "digits") j3 p3), some (.Constant (.str "count") j4 p4), some (.Constant (.str "fold") j5 p5)] [v1, v2, v3, v4, v5] pos) Q Δ := fun X H0 Z0 hX σ H Z hS => by
  refine We.of (pe_disp (pps_cons pe_str pe_we (pps_cons pe_str pe_we (pps_cons pe_str pe_we (pps_cons pe_str pe_we (pps_cons pe_str pe_we pps_nil))))) rfl rfl (fun z => by cases z) (by show 5 ≤ 15; decide)) ?_
  intro p hp
  have zp := hS.ok.none hp
  have s0 : Stp H Z (upd H p (.dK [])) Z := .new hS.ok hp
  refine (h X H0 Z0 hX σ _ Z (hS.step s0)).mono fun w1 H1 ⟨Z1, d1, s1, r1, ns, e1, h2⟩ => ?_
  refine (h2 X H0 Z0 hX σ _ _ ((hS.step s0).step s1)).mono fun w2 H2 ⟨Z2, d2, s2, r2, aa, e2, ha, h3⟩ => ?_
  refine (h3 X H0 Z0 hX σ _ _ (((hS.step s0).step s1).step s2)).mono fun w3 H3 ⟨Z3, d3, s3, r3, dd, e3, hd, h4⟩ => ?_
  refine (h4 X H0 Z0 hX σ _ _ ((((hS.step s0).step s1).step s2).step s3)).mono fun w4 H4 ⟨Z4, d4, s4, r4, kk, e4, h5⟩ => ?_
  refine (h5 X H0 Z0 hX σ _ _ (((((hS.step s0).step s1).step s2).step s3).step s4)).mono fun w5 H5 ⟨Z5, d5, s5, r5, ff, e5, hf, q⟩ => ?_
  subst e1; subst e2; subst e3; subst e4; subst e5
  have sAll := (((s1.trans s2).trans s3).trans s4).trans s5
  have kp := sAll.keep p _ upd_same zp ⟨fun ps e => (nomatch e), fun c q e => (nomatch (show _ = HO.ext _ from e))⟩
  obtain ⟨l, vs, rfl, _, zl, rl⟩ := (r1.le (((s2.trans s3).trans s4).trans s5).le).lst_inv s5.ok
  cases r2; cases r3; cases r4; cases r5
  rw [rl.of_ints] at zl
  refine ⟨kp.1, [(.inr "cells", .ref l), (.inr "at", .int aa), (.inr "digits", .int dd), (.inr "count", .int kk), (.inr "fold", .int ff)], rfl, by show 5 ≤ 15; decide, ?_⟩
  have em : mergeK [] [((.inr "cells" : Key), V.ref l), (.inr "at", .int aa), (.inr "digits", .int dd), (.inr "count", .int kk), (.inr "fold", .int ff)] = [(.inr "cells", .ref l), (.inr "at", .int aa), (.inr "digits", .int dd), (.inr "count", .int kk), (.inr "fold", .int ff)] := by
    exact merge_new (acc := []) penK_nodup
  rw [em]
  have st : Stp H Z (upd H5 p (penO l aa dd kk ff)) Z5 := (s0.trans sAll).own (.of hp) kp.2
  have st2 : Stp H Z (upd H5 p (penO l aa dd kk ff)) (shr Z5 p (penP l)) := st.share (.of hp) kp.2 upd_same ⟨aa, dd, kk, ff, ha, hd, hf, rfl⟩ .pen
  have nl : l ≠ p := fun e => by rw [e, kp.2] at zl; cases zl
  exact ⟨_, .pen, st2, .pen shr_same (by rw [shr_ne nl]; exact zl), q⟩
end

/-! ### draws -/
def spDraw : DSp := fun ds Q _ => ∃ n : Int, ds = [.pen, .int n] ∧ 1 ≤ n ∧ n < 18446744073709551616 ∧ ∀ r : Int, 0 ≤ r → r < n → Q (.int r)
def penD (l : Addr) (ns : List Int) (a d k f : Int) : List D := [.lsA l (ns.map D.int), .int a, .int d, .int k, .int f]
section
variable {P : Program} {w : World} {K : PySem.W.Frag} {mg : Str → Option Value} {base : Heap}
theorem unshr_ne {Z : Sh} {a p : Addr} (h : a ≠ p) : unshr Z p a = Z a := by unfold unshr; rw [if_neg h]
theorem unshr_same {Z : Sh} {p : Addr} : unshr Z p p = none := by unfold unshr; rw [if_pos rfl]
theorem draw_ok {x qual : Str} {st : Stmt} {f : Addr} {fd : FuncData} {N : List Str} {k : Nat} (F : Fun K x qual st f fd) (S : FnScope N ["pen", "many"] (defScope st))
    (h : ∀ (q l : Addr) (ns : List Int) (a d kk ff n : Int), 0 ≤ a → 0 ≤ d → 0 ≤ ff → 1 ≤ n → n < 18446744073709551616 →
      WB ⟨P, w, K, mg, base, N, defScope st, k, fun _ => False, fun _ => true, none, none⟩ (defBody st) ⟨fun _ => False, fun r Δ => ∃ i a' d' k' f' : Int, r = .int i ∧ 0 ≤ i ∧ i < n ∧ Δ[0]? = some (some (.oK q penK (penD l ns a' d' k' f'))) ∧ 0 ≤ a' ∧ 0 ≤ d' ∧ 0 ≤ f', fun _ => False, fun _ => False⟩
        (startD N [.oK q penK (penD l ns a d kk ff), .int n])) : FnOk P w K mg base (L2.CX P w) (k + 1) f fd ["pen", "many"] (lift K spDraw) := by
  refine F.okX S (fun vs H Q E ⟨Z, ds, Q0, E0, ok, r, ⟨n, ed, _⟩, _⟩ => by rw [r.length, ed]; rfl) fun cdv A outer s H vs Q E hr hsp => ?_
  obtain ⟨Z, ds, Q0, E0, ok, r, ⟨n, rfl, n1, n2, hq⟩, kq, ke⟩ := hsp
  obtain ⟨vp, vn, rfl, rp, rn⟩ := r.two
  cases rn
  cases rp with
  | pen zq zl =>
    rename_i q l ns
    obtain ⟨o, hq', a, d, kk, ff, ha, hd, hf, rfl⟩ := ok _ _ zq
    have nlq : l ≠ q := fun e => by
      subst e
      have e1 := fz_at (.refl _) ok zl
      rw [hq'] at e1; cases e1
    refine ⟨_, pss_we, ?_⟩
    have tk : Takes (cxOf (L2.CX P w) P w K mg base N qual (defScope st) f cdv A outer s H E) (fun cls d _ H => E cls d H) := takes_of rfl rfl rfl rfl
    have hX : CtxS ⟨P, w, K, mg, base, N, defScope st, k, fun _ => False, fun _ => true, none, none⟩ (hideA H q) (unshr Z q) (cxOf (L2.CX P w) P w K mg base N qual (defScope st) f cdv A outer s H E) :=
      { P := rfl, w := rfl, K := rfl, mg := rfl, base := rfl, N := rfl, sc := rfl, calm := fun _ => rfl, su := fun _ _ _ z => (nomatch z), lm := fun _ z => (nomatch z), room := fun _ => hr, nd := S.nd, fn := fun _ _ _ => .inl rfl,
        tk := tk.imp fun cls d σ H' ⟨Z', y, st', rx, hw⟩ => hw.elim, own := passes_of rfl }
    have okU : OkZ H (unshr Z q) := fun a φ e => by
      have ne : a ≠ q := fun z => by rw [z, unshr_same] at e; cases e
      rw [unshr_ne ne] at e; exact ok a φ e
    have zl' : unshr Z q l = some (fz (.lst (ns.map V.int))) := by rw [unshr_ne nlq]; exact zl
    have slots : Slots K (hideA H q) (unshr Z q) (L2.start N [.ref q, .int n]) H (unshr Z q) (startD N [.oK q penK (penD l ns a d kk ff), .int n]) := by
      have gets : ∀ (i : Nat) (dd : D), (startD N [.oK q penK (penD l ns a d kk ff), .int n])[i]? = some (some dd) → (i = 0 ∧ dd = .oK q penK (penD l ns a d kk ff)) ∨ (i = 1 ∧ dd = .int n) := fun i dd e => by
        unfold startD at e
        match i, e with
        | 0, e => simp at e; exact .inl ⟨rfl, e.symm⟩
        | 1, e => simp at e; exact .inr ⟨rfl, e.symm⟩
        | i + 2, e =>
          rw [List.getElem?_append_right (by simp), List.getElem?_replicate] at e
          split at e <;> cases e
      refine ⟨okz_hide okU unshr_same, stp_hide okU, ?_, fun i dd e => ?_, fun i j d1 d2 l' e1 e2 o1 o2 _ _ => ?_⟩
      · unfold L2.start startD; simp
      · rcases gets i dd e with ⟨rfl, rfl⟩ | ⟨rfl, rfl⟩
        · refine ⟨.ref q, by unfold L2.start; simp, .inr ⟨q, _, rfl, .of (by unfold hideA; rw [if_pos rfl]), unshr_same, hq', ?_⟩⟩
          exact .dK (ks := penK) (vs := [.ref l, .int a, .int d, .int kk, .int ff]) rfl (.cons (.lsA zl' (Rps.ints ns)) (.cons .int (.cons .int (.cons .int (.cons .int .nil)))))
        · exact ⟨.int n, by unfold L2.start; simp, .inl .int⟩
      · rcases gets i d1 e1 with ⟨rfl, rfl⟩ | ⟨rfl, rfl⟩
        · rcases gets j d2 e2 with ⟨rfl, rfl⟩ | ⟨rfl, rfl⟩
          · rfl
          · cases o2
        · cases o1
    intro pins s' I
    refine thn (h q l ns a d kk ff n ha hd hf n1 n2 _ _ _ hX _ H _ slots pins s' I) fun fl s2 qq => sp_mono qq (fun σ' H' ⟨Z', Δ', _, hS, z⟩ => z.elim) (fun v H' ⟨Z', dd, σ', Δ', hS, rr, i, a', d', k', f', ed, hi0, hin, e0, ha', hd', hf'⟩ => ?_) (fun _ _ ⟨_, _, _, _, z⟩ => z.elim) fun _ _ ⟨_, _, _, _, z⟩ => z.elim
    subst ed
    obtain ⟨q2, o, e1, h0, zq2, hq2, ow⟩ := hS.getO e0 rfl
    cases ow with
    | dK el rs =>
      rename_i vs
      -- the pen's dict as it lies now
      have hv : ∃ v1 v2 v3 v4 v5, vs = [v1, v2, v3, v4, v5] := by
        match vs, el with
        | [v1, v2, v3, v4, v5], _ => exact ⟨v1, v2, v3, v4, v5, rfl⟩
      obtain ⟨v1, v2, v3, v4, v5, rfl⟩ := hv
      cases rs with
      | cons r1 rs =>
        cases rs with
        | cons r2 rs =>
          cases rs with
          | cons r3 rs =>
            cases rs with
            | cons r4 rs =>
              cases rs with
              | cons r5 rs =>
                cases r1; cases r2; cases r3; cases r4; cases r5
                have leZ : Le Z (shr Z' q (penP l)) := fun b φ e => by
                  by_cases hb : b = q
                  · subst hb
                    rw [zq] at e; cases e; exact shr_same
                  · rw [shr_ne hb]; exact hS.stp.le b φ (by rw [unshr_ne hb]; exact e)
                have okZ' : OkZ H' (shr Z' q (penP l)) := fun b φ e => by
                  by_cases hb : b = q
                  · subst hb
                    rw [shr_same] at e; cases e
                    exact ⟨_, hq2, a', d', k', f', ha', hd', hf', rfl⟩
                  · rw [shr_ne hb] at e; exact hS.stp.ok b φ e
                refine kq (.int i) (hq i hi0 hin) v H' (shr Z' q (penP l)) ⟨leZ, okZ', fun b o e z nb => ?_, fun P0 q0 t => ?_, fun P0 q0 z => ?_, fun b o e n => ?_⟩ ?_
                · have hb : b ≠ q := fun x => by rw [x, zq] at z; cases z
                  obtain ⟨k1, k2⟩ := hS.stp.keep b o (by unfold hideA; rw [if_neg hb]; exact e) (by rw [unshr_ne hb]; exact z) nb
                  exact ⟨k1, by rw [shr_ne hb]; exact k2⟩
                · have nq : Nt (penP l) := .pen
                  obtain ⟨nt, z, ps, t1, t2, t3⟩ := t
                  have hb : P0 ≠ q := fun x => by
                    rw [x, zq] at z
                    exact nq.1 #[] (by rw [Option.some.inj z]; exact tabM_tbl #[])
                  have tt : TabZ (unshr Z q) (hideA H q) P0 q0 := ⟨fun a φ z => by
                    by_cases na : a = q
                    · rw [na, unshr_same] at z; cases z
                    · rw [unshr_ne na] at z; exact nt a φ z, by rw [unshr_ne hb]; exact z, ps, by unfold hideA; rw [if_neg hb]; exact t1, t2, fun pos cv e => by
                    obtain ⟨c, e1, zc⟩ := t3 pos cv e
                    refine ⟨c, e1, ?_⟩
                    have nc : c ≠ q := fun x => by
                      rw [x, zq] at zc
                      have e3 := congrFun (Option.some.inj zc) (penO l 0 0 0 0)
                      have e4 : penP l (penO l 0 0 0 0) := ⟨0, 0, 0, 0, Int.le_refl _, Int.le_refl _, Int.le_refl _, rfl⟩
                      rw [e3] at e4
                      exact nomatch (show HO.dK _ = HO.ext _ from e4)
                    rw [unshr_ne nc]; exact zc⟩
                  have k2 := hS.stp.tab P0 q0 tt
                  exact k2.le (Le.shr zq2) (k2.1.shr nq)
                · have nq : Nt (penP l) := .pen
                  obtain ⟨hb, z1⟩ := shr_tab nq z
                  have z2 := hS.stp.tb P0 q0 z1
                  rw [unshr_ne hb] at z2; exact z2
                · by_cases hb : b = q
                  · subst hb; exact ⟨_, hq2, fun ps z => (nomatch (show HO.dK _ = HO.tbl ps from z))⟩
                  · exact hS.stp.stays b o (by unfold hideA; rw [if_neg hb]; exact e) n
                · rcases rr with rr | ⟨_, _, _, _, _, _, rr⟩
                  · cases rr; exact .inl .int
                  · cases rr
end
end DL
end
section
set_option Elab.async false
set_option linter.all false
set_option maxRecDepth 100000
set_option maxHeartbeats 4000000
/-! DL11: enumerate of a tuple, tuple * int, chains, item targets, plain borrowed results. -/
namespace DL
open PySem PySem.Spec PyProof.Rows L2
section
open AutoSeq1 (wpAny_loadPart')
set_option maxHeartbeats 1000000 in
theorem meets_enumerate_new1 {v : Value} {o : Obj} {H : Heap → Prop} (B : Begins v o H) :
    Meets (Builtin.«enumerate.__new__» ⟨[.type "enumerate", v], []⟩) (fun _ R s => H s.heap ∧
      R (.ok (.ret (.ref (s.heap.push o).objs.size))) { s with heap := (s.heap.push o).push { cls := .type "enumerate", data := .fields #[.none, .bool false, .ref s.heap.objs.size, rawInt 0, .none, .none] } }) :=
  .of_wp fun prog w A R s h => by
    obtain ⟨hp, g, d, tk, os⟩ := s; obtain ⟨h1, h⟩ := h
    have hsub := sub_enumerate
    have q1 : ∀ {A' : Around} {E : Value → Shared → Prop} {Q : Value → Shared → Prop}, Q (.ref hp.objs.size) ⟨hp.push o, g, d, tk, os⟩ → wpAny (model prog w) A' (pyIter v) Q E ⟨hp, g, d, tk, os⟩ :=
      fun q => B.iter prog w _ _ ⟨hp, g, d, tk, os⟩ _ h1 q
    wp_walk using q1
    refine wpAny_stack_any fun st => wpAny_pure ?_
    split
    · rename_i c _ _ _ _ _
      cases (c == Value.type "enumerate")
      · wp_walk using q1
        exact ⟨_, rfl, h⟩
      · wp_walk using q1
        exact ⟨_, rfl, h⟩
    · wp_walk using q1
      exact ⟨_, rfl, h⟩
variable {prog : Program} {w : World} {A : Around} {E : Value → Shared → Prop} {s : Shared}
theorem enum_begins1 {v : Value} {o : Obj} {H : Heap → Prop} {Q : Value → Shared → Prop} (B : Begins v o H) (h1 : H s.heap)
    (h : ∀ h', IsEnum h' (s.heap.objs.size + 1) s.heap.objs.size 0 .none → h'.get? s.heap.objs.size = some o → h'.objs.size = s.heap.objs.size + 2 →
      (∀ b o, s.heap.get? b = some o → h'.get? b = some o) → Q (.ref (s.heap.objs.size + 1)) { s with heap := h' }) :
    wpAny (model prog w) A (call (.type "enumerate") [v]) Q E s := by
  refine callType_new F.called_enumerate (by decide) (F.typeCall_enumerate_1 _) (F.newCall_enumerate_1 _) (fun obj => F.args_object_init_2 obj _) F.entry_enumerate_new
    (meets_enumerate_new1 B) ⟨h1, ?_⟩
  have hz : (s.heap.push o).objs.size = s.heap.objs.size + 1 := Heap.size_push ..
  show _ ∧ _
  rw [hz]
  have he : IsEnum ((s.heap.push o).push { cls := .type "enumerate", data := .fields #[.none, .bool false, .ref s.heap.objs.size, rawInt 0, .none, .none] }) (s.heap.objs.size + 1) s.heap.objs.size 0 .none := by
    have := Heap.get?_push_size (s.heap.push o) (o := { cls := .type "enumerate", data := .fields #[.none, .bool false, .ref s.heap.objs.size, rawInt 0, .none, .none] }) rfl
    rw [hz] at this; exact this
  refine ⟨⟨_, he, rfl⟩, h _ he (Heap.get?_push_of_some _ (Heap.get?_push_size _ B.free)) (by rw [Heap.size_push, hz]) fun b o x => Heap.get?_push_of_some _ (Heap.get?_push_of_some _ x)⟩
end
def IteT (K : PySem.W.Frag) (a : Addr) : It :=
  ⟨fun i H => ∃ (xs : List V) (x : V), SqT K H a xs ∧ xs[i]? = some x, fun i H v H' => ∃ T x, v = .ref T ∧ H T = none ∧ H' = upd H T (.tup [.int (i : Nat), x]) ∧ ∀ xs, SqT K H a xs → xs[i]? = some x, fun i H => ∃ xs : List V, SqT K H a xs ∧ xs.length ≤ i⟩
theorem turn_enumT {P : Program} {w : World} {K : PySem.W.Frag} {elts : List Expr} {kk : Nat} {tpos : Pos} (a e it : Addr) :
    Turn P w K (.Tuple elts kk tpos) (IteT K a) [e, it] e (fun i h => (∃ old, IsEnum h e it ((i : Nat) : Int) old) ∧ h.IsTupleIter it a i ∧ e ≠ it ∧ e ≠ a ∧ a ≠ it) where
  mem := by simp
  obj := fun i h st b hb => by
    obtain ⟨⟨old, he⟩, ⟨o, ho, hc, hd⟩, _⟩ := st
    have e' : b = e ∨ b = it := by simpa using hb
    rcases e' with z | z
    · rw [z]; exact ⟨_, he, fun v q => nomatch q⟩
    · rw [z]; exact ⟨o, ho, fun v q => by rw [hd] at q; cases q⟩
  keep := fun i h h' st k => let ⟨⟨old, he⟩, hi, hne⟩ := st; ⟨⟨old, k e (by simp) _ he⟩, hi.at fun o q => k it (by simp) o q, hne⟩
  item := by
    intro X hP hw hK hc i pins s σ H E I hf st hg
    subst hP hw hK
    obtain ⟨⟨old, he⟩, hit, hne, hea, hai⟩ := st
    obtain ⟨xs, x, hq, hx⟩ := hg
    obtain ⟨its, rv, p, hz⟩ := I.tuple hq
    obtain ⟨u, hu, ru⟩ := rv.get hx
    have hel : e < s.heap.objs.size := Heap.lt_size he
    have hil : it < s.heap.objs.size := by obtain ⟨_, q, _⟩ := hit; exact Heap.lt_size q
    have hlt : i < its.toArray.size := by
      rw [List.size_toArray]
      exact (List.getElem?_eq_some_iff.mp hu).1
    refine wpAny_pyNext_enum_itemC (c := ((i : Nat) : Int)) (Draws.tuple (A := X.A.in1) (I.ok.hd hc) it a hai its.toArray) he ⟨hit, p⟩ hlt hne (by simp [hne, hea]) fun x' h' tk hP ho hit' hT hsz hk => ?_
    have hxu : x' = u := by
      have q : its[i]? = some x' := by simpa using hP
      rw [hu] at q; cases q; rfl
    subst hxu
    refine ⟨_, rfl, wpAny_letOwnedTupleGo_enum (s := { s with heap := h', toks := tk + 1 }) ho fun h'' he' sb => ?_⟩
    have hT2 : h''.get? s.heap.objs.size = some { cls := .type "tuple", data := .seq #[.int i tk, x'] } := (sb.2 _ (Nat.ne_of_gt hel)).trans hT
    have new : ObjOk X.prog X.w (upd H s.heap.objs.size (.tup [.int (i : Nat), x])) h'' s.heap.objs.size (.tup [.int (i : Nat), x]) :=
      ⟨by show 2 ≤ sizeLine; decide, [.int i tk, x'], .cons ⟨_, rfl⟩ (.cons ru .nil), ⟨_, hT2, rfl, _, rfl⟩⟩
    have I1 : Inv X pins σ (upd H s.heap.objs.size (.tup [.int (i : Nat), x])) { s with heap := h'', toks := tk + 1 } :=
      I.turnedNew (ch := [e, it]) (fun b ob hb q => (sb.2 b (fun z => hb (by simp [z]))).trans (hk b ob (fun z => hb (by simp [z])) (fun z => hb (by simp [z])) q)) hf (Nat.le_refl _) new
    refine ⟨.ref s.heap.objs.size, _, I1, rfl, ⟨_, x, rfl, I.hok.fresh (Nat.le_refl _), rfl, fun ys hy => by rw [I.tuple_inj hy hq]; exact hx⟩, ⟨⟨x', ?_⟩, hit'.1.at fun o q => (sb.2 it (Ne.symm hne)).trans q, hne, hea, hai⟩, fun b hb => ?_⟩
    · have e1 : ((i + 1 : Nat) : Int) = (i : Int) + 1 := by omega
      rw [e1]; exact he'
    · have hb' : b < s.heap.objs.size := by
        have e' : b = e ∨ b = it := by simpa using hb
        rcases e' with z | z
        · rw [z]; exact hel
        · rw [z]; exact hil
      rw [upd_ne (Nat.ne_of_lt hb')]
      exact (hf b hb).1
  done := by
    intro X hP hw hK hc i pins s σ H E I hf st hg
    subst hP hw hK
    obtain ⟨⟨old, he⟩, hit, hne, hea, hai⟩ := st
    obtain ⟨xs, hq, hx⟩ := hg
    obtain ⟨its, rv, p, hz⟩ := I.tuple hq
    obtain ⟨f0, f1, f2, f3, f4, f5⟩ := hf it (by simp)
    have hl := rv.length
    have D : Draws X.prog X.w X.A.in1 it [it, a] 0 (fun _ _ => True) (fun _ h => h.IsTupleIter it a i ∧ h.IsTuple a its.toArray) :=
      { live := fun _ _ st => let ⟨o, ho, _⟩ := st.1; ⟨o, ho⟩
        frame := fun _ _ _ st hk => ⟨st.1.at fun o e => hk it (by simp) o e, st.2.at fun o e => hk a (by simp) o e⟩
        item := fun j s Q E hi st hQ => absurd hi (Nat.not_lt_zero _)
        done := fun s Q E st hE => wpAny_nextOf_tuple_end (I.ok.hd hc) st.1 st.2 (by simp; omega) hE }
    exact wpAny_pyNext_enum_endD D he ⟨hit, p⟩ fun h' eb => ⟨rfl, I.turned (t' := s.toks) (fun b o hb q => eb b o hb q) f0 f1 f3 f4 f5⟩
  self := fun A i s Q E st h => let ⟨⟨_, he⟩, _⟩ := st; wpAny_pyIter_enum he h
def iEnumT (K : PySem.W.Frag) (ta : TA) : TI := fun σ H R => ta σ H fun vs H1 => ∃ a xs, vs = [.ref a] ∧ SqT K H1 a xs ∧ R (IteT K a) H1
theorem pi_enumT {X : Cx} {e : Expr} {ta : TA} {p pos tpos : Pos} {elts : List Expr} {kk : Nat} (hg : Gl X "enumerate") (hm : X.mg "enumerate" = none) (ha : PA X [e] ta) (hs : starEach [e] X.env = [(false, eval e X.env)] := by rfl) :
    PI X (.Tuple elts kk tpos) (.Call (.Name "enumerate" p) [e] [] pos) (iEnumT X.K ta) := by
  refine ⟨fun pins s σ H R I h => ?_⟩
  refine Call_ (ld_blt I hg hm boot_enumerate (PyProof.Rows.callWith_type1 (thn (ha.run pos pins s σ H _ I h) fun us s1 ⟨vs, H1, I1, r1, q1⟩ => ?_) hs rfl))
  obtain ⟨a, xs, ex, hq, q⟩ := q1
  subst ex
  cases r1 with
  | cons r rr =>
    cases rr
    cases r
    obtain ⟨its, rv, p', hz⟩ := I1.tuple hq
    have hal : a < s1.heap.objs.size := by obtain ⟨_, q, _⟩ := p'; exact Heap.lt_size q
    refine enum_begins1 (begins_tuple a its.toArray) p' fun h' he hit hsz hk => wpAny_pyIter_enum he ?_
    have I2 : Inv X pins σ H1 { s1 with heap := h' } := I1.kept (t' := s1.toks) hk
    refine ⟨s1.heap.objs.size + 1, [s1.heap.objs.size + 1, s1.heap.objs.size], _, _, H1, rfl, I2, turn_enumT a (s1.heap.objs.size + 1) s1.heap.objs.size, ⟨⟨.none, he⟩, ⟨_, hit, rfl, rfl⟩, Nat.succ_ne_self _, Nat.ne_of_gt (Nat.lt_succ_of_lt hal), Nat.ne_of_lt hal⟩, fun b hb => ?_, q⟩
    have e' : b = s1.heap.objs.size + 1 ∨ b = s1.heap.objs.size := by simpa using hb
    have hle : s1.heap.objs.size ≤ b := by
      rcases e' with z | z
      · rw [z]; exact Nat.le_add_right _ _
      · rw [z]; exact Nat.le_refl _
    exact I1.fpOk hle (I1.hok.fresh hle)
section
variable {c : Cf} {e a b : Expr} {es : List Expr} {Q : D → Prop} {Δ : Dl} {pos : Pos}
theorem wi_enumT {ts : List Expr} {kk : Nat} {tpos p : Pos} {Q : List D → Prop} (hg : Glo c "enumerate") (hm : c.mg "enumerate" = none)
    (h : WE c a (fun x => ∃ xs, x = .tup xs ∧ Q (enums xs)) Δ) (hs : isStar a = false := by rfl) : WI c (.Tuple ts kk tpos) (.Call (.Name "enumerate" p) [a] [] pos) Q Δ := fun X H0 Z0 hX σ H Z hS => by
  refine Wi.of (pi_enumT (hX.gl hg) (by rw [hX.mg]; exact hm) (pa_cons pe_we pa_nil (star1 hs)) (by rw [star1 hs]; rfl)) ?_
  refine (h X H0 Z0 hX σ H Z hS).mono fun v H1 ⟨Z1, x, s1, r1, xs, ex, q⟩ => ?_
  subst ex
  obtain ⟨pa, vs, rfl, hp, zp, rr⟩ := r1.tup_inv s1.ok
  refine ⟨pa, vs, rfl, .of hp, Z1, _, s1, fun H' Z' le ok i => ⟨fun d hd => ?_, fun hn => ?_⟩, q⟩
  · obtain ⟨x, y, hx, hy, rfl⟩ := pairs_get hd
    have hi : i < xs.length := (List.getElem?_eq_some_iff.mp hy).1
    rw [rng_get hi] at hx; cases hx
    obtain ⟨yv, hyv, ry⟩ := rr.get hy
    have h1 := fz_at le ok zp
    refine ⟨⟨vs, yv, .of h1, hyv⟩, fun v H'' ⟨T, y', ev, hT, eH, k1⟩ => ?_⟩
    have a1 := k1 vs (.of h1)
    rw [hyv] at a1; cases a1
    subst ev; subst eH
    have st : Stp H' Z' (upd H' T (.tup [.int (i : Nat), yv])) (shr Z' T (fz (.tup [.int (i : Nat), yv]))) := .newS ok hT rfl
    rw [Int.zero_add]
    exact ⟨_, st, .tup shr_same (.cons .int (.cons ((ry.le le).le st.le) .nil))⟩
  · refine ⟨vs, .of (fz_at le ok zp), ?_⟩
    rw [rr.length]
    rcases pairs_none hn with q | q
    · rw [rng_len] at q; exact q
    · exact q
/-- a op b op' c -/
theorem chain_run {op op' : CmpOp} {z : Expr} {F : VK} {X : Cx} {H0 : Hp} {Z0 : Sh} {σ : L2.St} {H : Hp} {Z : Sh} (h : WE c a (fun x => WE c b (fun y => VO c (compareOp op) x y (fun d => ∃ k, d = .bl k ∧ if k = true then WE c z (fun w => VO c (compareOp op') y w (fun d => Q d.frz)) Δ else Q (.bl false))) Δ) Δ)
    (hX : CtxOk c H0 Z0 X) (hS : Slots c.K H0 Z0 σ H Z Δ) (hF : ∀ v H', oPost c.K H Z (fun d => Q d.frz) v H' → F v H') :
    tChain (fun x y H Q => ∃ r : R2, OpR X (compareOp op) r ∧ r x y H Q) (fun x y H Q => ∃ r : R2, OpR X (compareOp op') r ∧ r x y H Q) (We X a) (We X b) (We X z) σ H F := by
  refine (h X H0 Z0 hX σ H Z hS).mono fun v H1 ⟨Z1, x, s1, r1, q1⟩ => ?_
  refine (q1 X H0 Z0 hX σ H1 Z1 (hS.step s1)).mono fun u H2 ⟨Z2, y, s2, r2, q2⟩ => ?_
  obtain ⟨r, hr, q⟩ := q2 X H0 Z0 hX H2 Z2 v u s2.ok (r1.le s2.le) r2
  refine ⟨fun x1 y1 H Q0 => x1 = v ∧ y1 = u ∧ H = H2 ∧ r v u H2 (oPost c.K H2 Z2 (fun d => ∃ k, d = .bl k ∧ if k = true then WE c z (fun w => VO c (compareOp op') y w (fun d => Q d.frz)) Δ else Q (.bl false))) ∧ ∀ z1 H', oPost c.K H2 Z2 (fun d => ∃ k, d = .bl k ∧ if k = true then WE c z (fun w => VO c (compareOp op') y w (fun d => Q d.frz)) Δ else Q (.bl false)) z1 H' → Q0 z1 H',
    fun pins s σ H x1 y1 vv uu Q0 I rx ry ⟨ex, ey, eH, k, m⟩ => by
      subst ex; subst ey; subst eH
      exact thn (hr pins s σ _ _ _ vv uu _ I rx ry k) fun _ _ ⟨z1, H', I', rz, qz⟩ => ⟨z1, H', I', rz, m z1 H' qz⟩, rfl, rfl, rfl, q, fun z1 H3 ⟨Z3, d, s3, r3, k, ed, q3⟩ => ?_⟩
  subst ed
  have ez : z1 = .bl k := by
    rcases r3 with r3 | ⟨_, _, _, _, _, _, r3⟩
    · cases r3; rfl
    · cases r3
  refine ⟨k, ez, ?_⟩
  cases k with
  | false => exact hF _ _ ⟨Z3, .bl false, (s1.trans s2).trans s3, .inl .bl, q3⟩
  | true =>
    refine (q3 X H0 Z0 hX σ H3 Z3 (((hS.step s1).step s2).step s3)).mono fun w' H4 ⟨Z4, dw, s4, r4, q4⟩ => ?_
    obtain ⟨r', hr', q'⟩ := q4 X H0 Z0 hX H4 Z4 u w' s4.ok ((r2.le s3.le).le s4.le) r4
    exact ⟨fun x y H Q0 => x = u ∧ y = w' ∧ H = H4 ∧ r' u w' H4 (oPost c.K H4 Z4 (fun d => Q d.frz)) ∧ ∀ z H', oPost c.K H4 Z4 (fun d => Q d.frz) z H' → Q0 z H',
      fun pins s σ H x y vv uu Q0 I rx ry ⟨ex, ey, eH, k, m⟩ => by
        subst ex; subst ey; subst eH
        exact thn (hr' pins s σ _ _ _ vv uu _ I rx ry k) fun _ _ ⟨z, H', I', rz, qz⟩ => ⟨z, H', I', rz, m z H' qz⟩, rfl, rfl, rfl, q', fun z H' p => hF z H' (p.mono hS.ok (((s1.trans s2).trans s3).trans s4))⟩
theorem we_chain {op op' : CmpOp} {z : Expr} (h : WE c a (fun x => WE c b (fun y => VO c (compareOp op) x y (fun d => ∃ k, d = .bl k ∧ if k = true then WE c z (fun w => VO c (compareOp op') y w (fun d => Q d.frz)) Δ else Q (.bl false))) Δ) Δ)
    (hm : lastMarks [op, op'] [b, z] = false := by with_unfolding_all rfl) : WE c (.Compare a [op, op'] [b, z] pos) Q Δ := we_of_wo fun X H0 Z0 hX σ H Z hS =>
  We.of (pe_chain op_any op_any pe_we pe_we pe_we hm) (chain_run h hX hS fun _ _ h => h)
theorem wt_chain {op op' : CmpOp} {z : Expr} {Q : Bool → Prop} (h : WE c a (fun x => WE c b (fun y => VO c (compareOp op) x y (fun d => ∃ k, d = .bl k ∧ if k = true then WE c z (fun w => VO c (compareOp op') y w (fun d => ∃ j, d.frz = .bl j ∧ Q j)) Δ else ∃ j, D.bl false = .bl j ∧ Q j)) Δ) Δ)
    (hm : lastMarks [op, op'] [b, z] = false := by with_unfolding_all rfl) : WT c (.Compare a [op, op'] [b, z] pos) Q Δ := fun X H0 Z0 hX σ H Z hS => by
  refine Wt.of (pt_chain op_any op_any pe_we pe_we pe_we hm) (chain_run (Q := fun d => ∃ j, d = .bl j ∧ Q j) h hX hS fun v H' ⟨Z', d, s, r, k, e, q⟩ => ?_)
  rcases r with r | ⟨_, _, _, _, _, _, r⟩
  · have e2 : d = .bl k := by cases r <;> first | exact e | cases e
    subst e2
    cases r; exact ⟨k, rfl, Z', s, q⟩
  · cases r <;> cases e
/-! ### what comes of a borrowed list may hold tuples -/
mutual
def D.tupOnly : D → Bool
  | .non => true | .bl _ => true | .int _ => true | .str _ => true | .ty _ => true | .adr _ => true
  | .tup l => tupOnlys l
  | _ => false
def tupOnlys : List D → Bool
  | [] => true
  | d :: ds => d.tupOnly && tupOnlys ds
end
mutual
theorem Rp.unshr {K : PySem.W.Frag} {Z : Sh} {p : Addr} {ob : HO} (z : Z p = some (fz ob)) (no : ∀ vs, ob ≠ .tup vs) : ∀ {d : D} {v : V}, d.tupOnly = true → Rp K Z v d → Rp K (unshr Z p) v d
  | .non, _, _, .non => .non
  | .bl _, _, _, .bl => .bl
  | .int _, _, _, .int => .int
  | .str _, _, _, .str => .str
  | .ty _, _, _, .ty => .ty
  | .adr _, _, _, .adr => .adr
  | .tup l, _, h, .tup (a := q) (vs := vs) zq r => by
    have ne : q ≠ p := fun e => by
      subst e
      rw [z] at zq
      exact no vs (fz_inj (Option.some.inj zq))
    exact .tup (by unfold DL.unshr; rw [if_neg ne]; exact zq) (Rps.unshr z no h r)
theorem Rps.unshr {K : PySem.W.Frag} {Z : Sh} {p : Addr} {ob : HO} (z : Z p = some (fz ob)) (no : ∀ vs, ob ≠ .tup vs) : ∀ {ds : List D} {vs : List V}, tupOnlys ds = true → Rps K Z vs ds → Rps K (unshr Z p) vs ds
  | [], _, _, .nil => .nil
  | d :: ds, _, h, .cons r t => by
    have h' : (d.tupOnly && tupOnlys ds) = true := h
    rw [Bool.and_eq_true] at h'
    exact .cons (Rp.unshr z no h'.1 r) (Rps.unshr z no h'.2 t)
end
theorem we_borrowT (i : Nat) {l : List D} (hi : Δ[i]? = some (some (.ol l))) (h : WE c e (fun d => d.tupOnly = true ∧ Q d) (Δ.set i (some (.lst l)))) : WE c e Q Δ := fun X H0 Z0 hX σ H Z hS => by
  obtain ⟨p, o, zl, hl, hS2, ow⟩ := hS.letsO hi rfl
  refine (h X H0 Z0 hX σ H _ hS2).mono fun v H' ⟨Z', d, s, r, pt, q⟩ => ⟨_, d, DL.borrow zl hl ow.nbo s, Rp.unshr (s.le p _ shr_same) ?_ pt r, q⟩
  cases ow with
  | lst _ => intro vs e; cases e
/-- xs[b1], ys[b2] = e, xs and ys one's own lists -/
theorem ws_items2 (i j : Nat) {x y : Str} {p p2 p3 p4 tp : Pos} {kk : Nat} {ds es : List D} {b1 b2 : Expr} {T : Te} (hN : c.N[i]? = some x) (hv : Vis c.sc x) (hN2 : c.N[j]? = some y) (hv2 : Vis c.sc y) (hi : Δ[i]? = some (some (.ol ds)))
    (h : WE c e (fun d => ∃ y1 y2, d = .tup [y1, y2] ∧ WE c b1 (fun ix => ∃ n k, ix = .int n ∧ ixN ds.length n = some k ∧ (Δ.set i (some (.ol (ds.set k y1))))[j]? = some (some (.ol es)) ∧ WE c b2 (fun ix2 => ∃ n2 k2, ix2 = .int n2 ∧ ixN es.length n2 = some k2 ∧ T.nx ((Δ.set i (some (.ol (ds.set k y1)))).set j (some (.ol (es.set k2 y2))))) (Δ.set i (some (.ol (ds.set k y1))))) Δ) Δ)
    (hs : ∀ env, swapsWithSole [.Tuple [.Subscript (.Name x p) b1 p2, .Subscript (.Name y p3) b2 p4] kk tp] e pos.line env = pure false := by intro _; rfl)
    (hw : ∀ env, swappedStores [.Tuple [.Subscript (.Name x p) b1 p2, .Subscript (.Name y p3) b2 p4] kk tp] e env = pure none := by intro _; rfl)
    (ha : ∀ env v, assign (.Subscript (.Name x p) b1 p2) env v = (do
      let ov ← holding [v] (eval (.Name x p) env)
      let iv ← holding [v, ov] (eval b1 env)
      standAt p2
      holding [v, ov, iv] (setItem ov iv v)
      release [v, ov, iv] []) := by intro _ _; rfl)
    (ha2 : ∀ env v, assign (.Subscript (.Name y p3) b2 p4) env v = (do
      let ov ← holding [v] (eval (.Name y p3) env)
      let iv ← holding [v, ov] (eval b2 env)
      standAt p4
      holding [v, ov, iv] (setItem ov iv v)
      release [v, ov, iv] []) := by intro _ _; rfl)
    (hd : (x == ("__debug__" : Str)) = false := by decide) (hcd : (x == ("__classdict__" : Str)) = false := by decide)
    (hd2 : (y == ("__debug__" : Str)) = false := by decide) (hcd2 : (y == ("__classdict__" : Str)) = false := by decide) (hh : c.hot = none := by rfl) : WS c (.Assign [.Tuple [.Subscript (.Name x p) b1 p2, .Subscript (.Name y p3) b2 p4] kk tp] e pos) T Δ := fun X H0 Z0 hX σ H Z hS => by
  refine Ws.of (ps_asg pe_we (pg_tup (hX.calm hh) (pgs_cons (pg_sub (pe_var (i := i) (by rw [hX.N]; exact hN) (by rw [hX.sc]; exact hv) hd hcd) pe_we set_list (ha _)) (pgs_cons (pg_sub (pe_var (i := j) (by rw [hX.N]; exact hN2) (by rw [hX.sc]; exact hv2) hd2 hcd2) pe_we set_list (ha2 _)) pgs_nil))) (hs _) (hw _) rfl) ?_
  refine (h X H0 Z0 hX.toCtxOk σ H Z hS).mono fun v H1 ⟨Z1, d, s1, ry, y1, y2, ed, q1⟩ => ?_
  subst ed
  obtain ⟨tq, vs, rfl, hp, zp, rr⟩ := ry.tup_inv s1.ok
  obtain ⟨v1, v2, rfl, rv1, rv2⟩ := rr.two
  refine ⟨tq, _, rfl, .of hp, rfl, v1, [v2], rfl, ?_⟩
  have hS1 := hS.step s1
  obtain ⟨l, o, e1, h0, zl, hl, r⟩ := hS1.getO hi rfl
  refine ⟨_, e1, ?_⟩
  refine (q1 X H0 Z0 hX.toCtxOk σ H1 Z1 hS1).mono fun u H2 ⟨Z2, ix, s2, ri, n, k, en, hk, hj, q⟩ => ?_
  subst en; cases ri
  have hS2 := hS1.step s2
  obtain ⟨l2, o2, e2, _, _, hl2, r2⟩ := hS2.getO hi rfl
  rw [e1] at e2; cases e2
  cases r2 with
  | lst rr2 =>
    have hS3 := hS2.put hi rfl e1 (.lst (rr2.set (rv1.le s2.le) k))
    refine ⟨l, _, n, k, rfl, rfl, hl2, by rw [rr2.length]; exact hk, v2, [], rfl, ?_⟩
    obtain ⟨m, o3, e3, h03, zm, hm, r3⟩ := hS3.getO hj rfl
    refine ⟨_, e3, ?_⟩
    refine (q X H0 Z0 hX.toCtxOk σ _ Z2 hS3).mono fun u H4 ⟨Z4, ix, s4, ri, n2, k2, en, hk2, q4⟩ => ?_
    subst en; cases ri
    have hS4 := hS3.step s4
    obtain ⟨m2, o4, e4, _, _, hm2, r4⟩ := hS4.getO hj rfl
    rw [e3] at e4; cases e4
    cases r4 with
    | lst rr4 => exact ⟨m, _, n2, k2, rfl, rfl, hm2, by rw [rr4.length]; exact hk2, rfl, Z4, _, (s1.le.trans s2.le).trans s4.le, hS4.put hj rfl e3 (.lst (rr4.set ((rv2.le s2.le).le s4.le) k2)), q4⟩
end
end DL
end
section
set_option Elab.async false
set_option linter.all false
set_option maxRecDepth 100000
set_option maxHeartbeats 4000000
/-! DL12: tuple * int. -/
namespace DL
open PySem PySem.Spec PyProof.Rows L2
section
open AutoSeq1 (wpAny_loadPart')
theorem tuple_mul1 (l : Addr) (items : Array Value) (n : Nat) (dd : Option Addr) (sl : Array (Option Value)) (u : Tok) :
    Meets (Builtin.«tuple.__mul__» ⟨[.ref l, .int 1 u], []⟩) (fun _ R s => s.heap.get? l = some { cls := .type "tuple", dict := dd, data := .seq items n, slots := sl } ∧ R (.ok (.ret (Value.ref l))) s) :=
  .of_wp fun prog w A R s h => by
    obtain ⟨hp, g, d, tk, os⟩ := s
    obtain ⟨hl, h⟩ := h
    have f1 := AutoSeq1.idx_int
    have c0 : (decide ((1 : Int) < -(2 ^ 63)) || decide ((1 : Int) ≥ 2 ^ 63)) = false := by decide
    have c1 : (items.isEmpty || (1 : Int) == 1) = true := by simp
    wp_walk using wpAny_loadPart' hl
    repeat (first
      | (refine wpAny_ite_false (decide_eq_false (by rw [c0]; exact Bool.false_ne_true)) ?_; wp_walk using wpAny_loadPart' hl)
      | (refine wpAny_ite_true (decide_eq_true c1) ?_; wp_walk using wpAny_loadPart' hl))
    exact ⟨_, rfl, h⟩
end
section
variable {X : Cx}
def rRep1 (K : PySem.W.Frag) : R2 := fun x y H Q => ∃ l xs, x = .ref l ∧ y = .int 1 ∧ SqT K H l xs ∧ Q (.ref l) H
theorem op_rep1 : OpR X (binaryOp .Mult) (rRep1 X.K) := by
  intro pins s σ H x y v u Q I rx ry h
  obtain ⟨l, xs, rfl, rfl, hT, q⟩ := h
  cases rx
  obtain ⟨t, rfl⟩ := ry
  obtain ⟨its, r, ⟨⟨cls, dd, data, sl⟩, ho, hc, n, hd⟩, hs⟩ := I.tuple hT
  simp only at hc hd
  subst hc hd
  refine wpAny_binaryOp_repeat_ref (T := "tuple") (U := "int") (by decide) ⟨_, ho, rfl⟩ (fun s' => typeIs_int s' 1 t) noFill_tuple_mul F.fills_int_mul F.slot_int_rmul repeat_tuple F.slot_int_index.lookup
    (call_meets F.slot_int_rmul (typeIs_int s 1 t) F.entry_int_rmul (F.args_int_rmul_2 _ _) (int_rmul_tuple 1 t l its.toArray n dd sl)
      ⟨ho, rfl, ⟨_, ho, rfl⟩, call_meets F.slot_tuple_mul ⟨_, ho, rfl⟩ F.entry_tuple_mul (F.args_tuple_mul_2 _ _) (tuple_mul1 l its.toArray n dd sl t) ⟨ho, ?_⟩⟩)
  exact ⟨.ref l, H, I, rfl, q⟩
end
section
variable {c : Cf} {e a b : Expr} {es : List Expr} {Q : D → Prop} {Δ : Dl} {pos : Pos}
theorem vo_repT {xs : List D} {k : Int} (hne : xs ≠ []) (h1 : 1 ≤ k) (h2 : k ≤ 1000) (hl : xs.length ≤ 1000) (q : Q (.tup (List.replicate k.toNat xs).flatten)) : VO c (binaryOp .Mult) (.tup xs) (.int k) Q := fun X _ _ hX H Z v u ok r1 r2 => by
  cases r2
  obtain ⟨p, vs, rfl, hp, zp, rr⟩ := r1.tup_inv ok
  by_cases e : k = 1
  · subst e
    refine ⟨rRep1 X.K, op_rep1, p, vs, rfl, rfl, .of hp, ?_⟩
    refine opost ok r1 ?_
    have e2 : (List.replicate (1 : Int).toNat xs).flatten = xs := by simp
    rw [e2] at q
    exact q
  · refine ⟨rRepT X.K, op_repT, p, k, vs, rfl, rfl, .of hp, ?_, by omega, h2, by rw [rr.length]; exact hl, fun q' hq => opost_newT ok hq (rr.rep k.toNat) q⟩
    intro z
    rw [z] at rr
    cases rr
    exact hne rfl
/-! ### the builtins are the program's own nowhere -/
structure Bl (mg : Str → Option Value) : Prop where
  isinstance : mg "isinstance" = none
  len : mg "len" = none
  int : mg "int" = none
  bool : mg "bool" = none
  str : mg "str" = none
  list : mg "list" = none
  tuple : mg "tuple" = none
  range : mg "range" = none
  all : mg "all" = none
  any : mg "any" = none
  zip : mg "zip" = none
  enumerate : mg "enumerate" = none
  min : mg "min" = none
theorem if_b {b : Bool} {A B : Prop} (h1 : b = true → A) (h2 : b = false → B) : if b = true then A else B := by
  cases b with
  | true => exact (h1 rfl : A)
  | false => exact (h2 rfl : B)
theorem if_t {b : Bool} {A B : Prop} (h : b = true) (h1 : A) : if b = true then A else B := by rw [if_pos h]; exact h1
theorem if_f {b : Bool} {A B : Prop} (h : b = false) (h1 : B) : if b = true then A else B := by rw [if_neg (by rw [h]; exact Bool.false_ne_true)]; exact h1
end
end DL
end
section
set_option Elab.async false
set_option linter.all false
set_option maxRecDepth 100000
set_option maxHeartbeats 4000000
/-! DL13: plain data without truth values: == is equality. -/
namespace DL
open PySem PySem.Spec PyProof.Rows L2
mutual
def D.nb : D → Bool
  | .non => true | .int _ => true | .str _ => true
  | .tup l => nbs l | .lst l => nbs l
  | _ => false
def nbs : List D → Bool
  | [] => true
  | d :: ds => d.nb && nbs ds
end
mutual
theorem eqv_eq : ∀ (x y : D), x.nb = true → y.nb = true → (PyData.eqv x.py y.py = true ↔ x = y)
  | .non, y, _, hy => by cases y <;> first | (simp [D.py, PyData.eqv]; done) | cases hy
  | .int i, y, _, hy => by cases y <;> first | (simp [D.py, PyData.eqv]; done) | cases hy
  | .str i, y, _, hy => by cases y <;> first | (simp [D.py, PyData.eqv]; done) | cases hy
  | .tup l, y, hx, hy => by
    cases y with
    | tup m => simp only [D.py, PyData.eqv, D.tup.injEq]; exact eqv_eqs l m hx hy
    | _ => first | (simp [D.py, PyData.eqv]; done) | cases hy
  | .lst l, y, hx, hy => by
    cases y with
    | lst m => simp only [D.py, PyData.eqv, D.lst.injEq]; exact eqv_eqs l m hx hy
    | _ => first | (simp [D.py, PyData.eqv]; done) | cases hy
theorem eqv_eqs : ∀ (xs ys : List D), nbs xs = true → nbs ys = true → (PyData.eqvAll (pys xs) (pys ys) = true ↔ xs = ys)
  | [], [], _, _ => by simp [pys, PyData.eqvAll]
  | [], _ :: _, _, _ => by simp [pys, PyData.eqvAll]
  | _ :: _, [], _, _ => by simp [pys, PyData.eqvAll]
  | x :: xs, y :: ys, hx, hy => by
    have hx' : (x.nb && nbs xs) = true := hx
    have hy' : (y.nb && nbs ys) = true := hy
    rw [Bool.and_eq_true] at hx' hy'
    simp only [pys, PyData.eqvAll, Bool.and_eq_true, List.cons.injEq]
    rw [eqv_eq x y hx'.1 hy'.1, eqv_eqs xs ys hx'.2 hy'.2]
end
structure OkD (n : Nat) (d : D) : Prop where
  pu : d.pure = true
  nb : d.nb = true
  la : d.py.canLay0 = true
  de : d.py.depth ≤ n
theorem OkD.int {n : Nat} {i : Int} : OkD n (.int i) := ⟨rfl, rfl, by simp only [D.py, PyData.canLay0], by simp only [D.py, PyData.depth]; exact Nat.zero_le _⟩
theorem OkD.non {n : Nat} : OkD n .non := ⟨rfl, rfl, by simp only [D.py, PyData.canLay0], by simp only [D.py, PyData.depth]; exact Nat.zero_le _⟩
theorem OkD.str {n : Nat} {x : Str} (h : PyData.strOk x = true) : OkD n (.str x) := ⟨rfl, rfl, by simp only [D.py, PyData.canLay0]; exact h, by simp only [D.py, PyData.depth]; exact Nat.zero_le _⟩
theorem okds {n : Nat} : ∀ {l : List D}, (∀ d ∈ l, OkD n d) → pures l = true ∧ nbs l = true ∧ PyData.canLayAll0 (pys l) = true ∧ PyData.depthAll (pys l) ≤ n
  | [], _ => ⟨rfl, rfl, by simp only [pys, PyData.canLayAll0], by simp only [pys, PyData.depthAll]; exact Nat.zero_le _⟩
  | d :: l, h => by
    obtain ⟨a, b, c, e⟩ := okds (l := l) fun d hd => h d (List.mem_cons_of_mem _ hd)
    have k := h d List.mem_cons_self
    refine ⟨?_, ?_, ?_, ?_⟩
    · show (d.pure && pures l) = true; rw [k.pu, a]; rfl
    · show (d.nb && nbs l) = true; rw [k.nb, b]; rfl
    · simp only [pys, PyData.canLayAll0, k.la, c, Bool.and_self]
    · simp only [pys, PyData.depthAll]; exact Nat.max_le.mpr ⟨k.de, e⟩
theorem OkD.tup {n : Nat} {l : List D} (h : ∀ d ∈ l, OkD n d) : OkD (n + 1) (.tup l) := by
  obtain ⟨a, b, c, e⟩ := okds h
  exact ⟨a, b, by simp only [D.py, PyData.canLay0]; exact c, by simp only [D.py, PyData.depth]; omega⟩
theorem OkD.lst {n : Nat} {l : List D} (h : ∀ d ∈ l, OkD n d) : OkD (n + 1) (.lst l) := by
  obtain ⟨a, b, c, e⟩ := okds h
  exact ⟨a, b, by simp only [D.py, PyData.canLay0]; exact c, by simp only [D.py, PyData.depth]; omega⟩
theorem OkD.mono {n m : Nat} {d : D} (h : OkD n d) (k : n ≤ m) : OkD m d := ⟨h.pu, h.nb, h.la, Nat.le_trans h.de k⟩
theorem OkD.shaped {n : Nat} {d : D} (h : OkD n d) (k : n ≤ 64) : SeqAt.shaped d.py = true := by
  show (d.py.canLay0 && decide (d.py.depth ≤ 64)) = true
  rw [h.la, decide_eq_true (Nat.le_trans h.de k)]; rfl
mutual
theorem Rp.inj_nb {K : PySem.W.Frag} {Z : Sh} : ∀ {x y : D} {v : V}, x.nb = true → y.nb = true → Rp K Z v x → Rp K Z v y → x = y
  | .non, _, _, _, hy, .non, r => by cases r; rfl
  | .int _, _, _, _, hy, .int, r => by cases r; rfl
  | .str _, _, _, _, hy, .str, r => by cases r; rfl
  | .tup l, y, _, hx, hy, .tup z r, r2 => by
    cases r2 with
    | tup z2 r2 =>
      rw [z] at z2
      have e := DL.fz_inj (Option.some.inj z2)
      cases e
      rw [Rps.inj_nb hx hy r r2]
    | lst z2 _ =>
      rw [z] at z2
      have e := DL.fz_inj (Option.some.inj z2)
      cases e
    | _ => cases hy
  | .lst l, y, _, hx, hy, .lst z r, r2 => by
    cases r2 with
    | lst z2 r2 =>
      rw [z] at z2
      have e := DL.fz_inj (Option.some.inj z2)
      cases e
      rw [Rps.inj_nb hx hy r r2]
    | tup z2 _ =>
      rw [z] at z2
      have e := DL.fz_inj (Option.some.inj z2)
      cases e
    | _ => cases hy
theorem Rps.inj_nb {K : PySem.W.Frag} {Z : Sh} : ∀ {xs ys : List D} {vs : List V}, nbs xs = true → nbs ys = true → Rps K Z vs xs → Rps K Z vs ys → xs = ys
  | [], _, _, _, _, .nil, r => by cases r; rfl
  | x :: xs, _, _, hx, hy, .cons r t, r2 => by
    cases r2 with
    | cons r2 t2 =>
      rename_i d ds
      have hx' : (x.nb && nbs xs) = true := hx
      have hy' : (d.nb && nbs ds) = true := hy
      rw [Bool.and_eq_true] at hx' hy'
      rw [Rp.inj_nb hx'.1 hy'.1 r r2, Rps.inj_nb hx'.2 hy'.2 t t2]
end
theorem zip_inj {α β : Type} : ∀ {ns : List α} {vs ws : List β}, ns.length = vs.length → ns.length = ws.length → ns.zip vs = ns.zip ws → vs = ws
  | [], [], [], _, _, _ => rfl
  | n :: ns, v :: vs, u :: ws, h1, h2, e => by
    simp only [List.zip_cons_cons, List.cons.injEq, Prod.mk.injEq] at e
    rw [e.1.2, zip_inj (by simpa using h1) (by simpa using h2) e.2]
  | [], _ :: _, _, h, _, _ => by simp at h
  | [], [], _ :: _, _, h, _ => by simp at h
  | _ :: _, [], _, h, _, _ => by simp at h
  | _ :: _, _ :: _, [], _, h, _ => by simp at h
theorem Rp.ins_inj {K : PySem.W.Frag} {Z : Sh} {C : Addr} {ns : List Str} {xs ys : List D} {v : V} (hx : nbs xs = true) (hy : nbs ys = true) (r : Rp K Z v (.ins C ns xs)) (r2 : Rp K Z v (.ins C ns ys)) : xs = ys := by
  cases r with
  | ins z e r =>
    cases r2 with
    | ins z2 e2 r2 =>
      rw [z] at z2
      have q := DL.fz_inj (Option.some.inj z2)
      injection q with _ _ q
      have q2 := zip_inj e e2 q
      subst q2
      exact Rps.inj_nb hx hy r r2
section
variable {c : Cf} {e a b : Expr} {es : List Expr} {Q : D → Prop} {Δ : Dl} {pos : Pos}
theorem vo_eqN {x y : D} (n : Nat) (hx : OkD n x) (hy : OkD n y) (hn : n ≤ 64) (q : ∀ k : Bool, (k = true ↔ x = y) → Q (.bl k)) (hh : c.hot = none := by rfl) : VO c (compareOp .Eq) x y Q :=
  vo_eqD (hh := hh) hx.pu hy.pu (hx.shaped hn) (hy.shaped hn) (q _ (eqv_eq x y hx.nb hy.nb))
theorem vo_neN {x y : D} (n : Nat) (hx : OkD n x) (hy : OkD n y) (hn : n ≤ 64) (q : ∀ k : Bool, (k = true ↔ x ≠ y) → Q (.bl k)) (hh : c.hot = none := by rfl) : VO c (compareOp .NotEq) x y Q :=
  vo_neD (hh := hh) hx.pu hy.pu (hx.shaped hn) (hy.shaped hn) (q _ (by rw [Bool.not_eq_true', ← Bool.not_eq_true, eqv_eq x y hx.nb hy.nb]))
theorem any_eqv {x : D} (hx : x.nb = true) : ∀ {l : List D}, nbs l = true → (((pys l).any fun z => PyData.eqv z x.py) = true ↔ x ∈ l)
  | [], _ => by simp [pys]
  | d :: l, h => by
    have h' : (d.nb && nbs l) = true := h
    rw [Bool.and_eq_true] at h'
    simp only [pys, List.any_cons, Bool.or_eq_true, List.mem_cons]
    rw [eqv_eq d x h'.1 hx, any_eqv hx h'.2]
    exact or_congr_left eq_comm
theorem vo_inN {x : D} {l : List D} (n : Nat) (hx : OkD n x) (hy : ∀ d ∈ l, OkD n d) (hn : n ≤ 63) (q : ∀ k : Bool, (k = true ↔ x ∈ l) → Q (.bl k)) (hh : c.hot = none := by rfl) : VO c (compareOp .In) x (.lst l) Q :=
  have hl := OkD.lst hy
  vo_inD (hh := hh) hx.pu hl.pu (hx.shaped (by omega)) (hl.shaped (by omega)) (q _ (any_eqv hx.nb hl.nb))
theorem vo_niN {x : D} {l : List D} (n : Nat) (hx : OkD n x) (hy : ∀ d ∈ l, OkD n d) (hn : n ≤ 63) (q : ∀ k : Bool, (k = true ↔ x ∉ l) → Q (.bl k)) (hh : c.hot = none := by rfl) : VO c (compareOp .NotIn) x (.lst l) Q :=
  have hl := OkD.lst hy
  vo_niD (hh := hh) hx.pu hl.pu (hx.shaped (by omega)) (hl.shaped (by omega)) (q _ (by rw [Bool.not_eq_true', ← Bool.not_eq_true, any_eqv hx.nb hl.nb]))
theorem vc_strS {x : Str} (q : Q (.str x)) : VC c (.type "str") [.str x] Q := fun X _ _ hX H Z vs ok r => by
  obtain ⟨v, rfl, r1⟩ := r.one
  cases r1
  exact ⟨_, SkE.call_str_str, x, rfl, opost ok .str q⟩
end
end DL
end
section
set_option Elab.async false
set_option linter.all false
set_option maxRecDepth 100000
set_option maxHeartbeats 4000000
/-! DL14: a, b = x, y with new lists of one's own. -/
namespace DL
open PySem PySem.Spec PyProof.Rows L2
section
variable {c : Cf} {e a b : Expr} {es : List Expr} {Q : D → Prop} {Δ : Dl} {pos : Pos} {T : Te}
theorem ws_parO (i j : Nat) {x y : Str} {px py pt : Pos} {kt k2 pt2} (hi : c.N[i]? = some x) (hj : c.N[j]? = some y) (hij : i ≠ j) (hx : c.sc.names.lookup x = some .local) (hy : c.sc.names.lookup y = some .local)
    (h : WO c a (fun d1 => WO c b (fun d2 => T.nx ((Δ.set i (some d1)).set j (some d2))) Δ) Δ)
    (hw : ∀ env : Env, env.scope = c.sc → swappedStores [.Tuple [.Name x px, .Name y py] kt pt] (.Tuple [a, b] k2 pt2) env = pure (some [x, y])) (ha : isStar a = false := by rfl) (hb : isStar b = false := by rfl) (hh : c.hot = none := by rfl) : WS c (.Assign [.Tuple [.Name x px, .Name y py] kt pt] (.Tuple [a, b] k2 pt2) pos) T Δ := fun X H0 Z0 hX σ H Z hS => by
  refine Ws.of (ps_par (hX.calm hh) (by rw [hX.N]; exact hX.nd) (by rw [hX.N]; exact hi) (by rw [hX.N]; exact hj) hij (by rw [hX.sc]; exact hx) (by rw [hX.sc]; exact hy) (pa_cons pe_we (pa_cons pe_we pa_nil (star1 hb)) (star1 ha)) (hw _ hX.sc) rfl) ?_
  refine (h X H0 Z0 hX.toCtxOk σ H Z hS).mono fun v H1 ⟨Z1, d1, s1, r1, q1⟩ => ?_
  refine (q1 X H0 Z0 hX.toCtxOk σ H1 Z1 (hS.step s1)).mono fun u H2 ⟨Z2, d2, s2, r2, q2⟩ => ?_
  exact ⟨v, u, rfl, Z2, _, s1.le.trans s2.le, (hS.setO s1 i r1).setO s2 j r2, q2⟩
end
end DL
end
section
set_option Elab.async false
set_option linter.all false
set_option maxRecDepth 100000
set_option maxHeartbeats 4000000
/-! DL15: the pen's cells, by name. -/
namespace DL
open PySem PySem.Spec PyProof.Rows L2
section
variable {c : Cf} {e a b : Expr} {es : List Expr} {Q : D → Prop} {Δ : Dl} {pos p p2 p3 : Pos} {T : Te} {q l : Addr} {ns : List Int} {pa pd pk pf : Int} {j : Nat}
theorem we_pCells (hN : c.N[0]? = some ("pen" : Str)) (hv : Vis c.sc "pen") (hi : Δ[0]? = some (some (.oK q penK (penD l ns pa pd pk pf)))) (qq : Q (.lsA l (ns.map D.int))) (hh : c.hot = none := by rfl) : WE c (.Subscript (.Name "pen" p) (.Constant (.str "cells") j p2) pos) Q Δ :=
  we_getK (hh := hh) 0 hN hv hi (we_str ⟨.inr "cells", _, rfl, rfl, qq⟩)
theorem we_pAt (hN : c.N[0]? = some ("pen" : Str)) (hv : Vis c.sc "pen") (hi : Δ[0]? = some (some (.oK q penK (penD l ns pa pd pk pf)))) (qq : Q (.int pa)) (hh : c.hot = none := by rfl) : WE c (.Subscript (.Name "pen" p) (.Constant (.str "at") j p2) pos) Q Δ :=
  we_getK (hh := hh) 0 hN hv hi (we_str ⟨.inr "at", _, rfl, rfl, qq⟩)
theorem we_pDigits (hN : c.N[0]? = some ("pen" : Str)) (hv : Vis c.sc "pen") (hi : Δ[0]? = some (some (.oK q penK (penD l ns pa pd pk pf)))) (qq : Q (.int pd)) (hh : c.hot = none := by rfl) : WE c (.Subscript (.Name "pen" p) (.Constant (.str "digits") j p2) pos) Q Δ :=
  we_getK (hh := hh) 0 hN hv hi (we_str ⟨.inr "digits", _, rfl, rfl, qq⟩)
theorem we_pCount (hN : c.N[0]? = some ("pen" : Str)) (hv : Vis c.sc "pen") (hi : Δ[0]? = some (some (.oK q penK (penD l ns pa pd pk pf)))) (qq : Q (.int pk)) (hh : c.hot = none := by rfl) : WE c (.Subscript (.Name "pen" p) (.Constant (.str "count") j p2) pos) Q Δ :=
  we_getK (hh := hh) 0 hN hv hi (we_str ⟨.inr "count", _, rfl, rfl, qq⟩)
theorem we_pFold (hN : c.N[0]? = some ("pen" : Str)) (hv : Vis c.sc "pen") (hi : Δ[0]? = some (some (.oK q penK (penD l ns pa pd pk pf)))) (qq : Q (.int pf)) (hh : c.hot = none := by rfl) : WE c (.Subscript (.Name "pen" p) (.Constant (.str "fold") j p2) pos) Q Δ :=
  we_getK (hh := hh) 0 hN hv hi (we_str ⟨.inr "fold", _, rfl, rfl, qq⟩)
theorem pen_small : penK.length < sizeLine := by rw [sizeLine_eq]; decide
theorem ws_pAt (hN : c.N[0]? = some ("pen" : Str)) (hv : Vis c.sc "pen") (hi : Δ[0]? = some (some (.oK q penK (penD l ns pa pd pk pf)))) (h : WE c e (fun y => ∃ i, y = .int i ∧ T.nx (Δ.set 0 (some (.oK q penK (penD l ns i pd pk pf))))) Δ)
    (hs : ∀ env, swapsWith e (some (.Subscript (.Name "pen" p) (.Constant (.str "at") j p3) p2)) pos.line env = pure false := by intro _; rfl) (hh : c.hot = none := by rfl) : WS c (.Assign [.Subscript (.Name "pen" p) (.Constant (.str "at") j p3) p2] e pos) T Δ :=
  ws_putK (hh := hh) 0 hN hv hi (h.mono fun y ⟨i, ey, q⟩ => by subst ey; exact we_str ⟨.inr "at", rfl, pen_small, q⟩) hs
theorem ws_pDigits (hN : c.N[0]? = some ("pen" : Str)) (hv : Vis c.sc "pen") (hi : Δ[0]? = some (some (.oK q penK (penD l ns pa pd pk pf)))) (h : WE c e (fun y => ∃ i, y = .int i ∧ T.nx (Δ.set 0 (some (.oK q penK (penD l ns pa i pk pf))))) Δ)
    (hs : ∀ env, swapsWith e (some (.Subscript (.Name "pen" p) (.Constant (.str "digits") j p3) p2)) pos.line env = pure false := by intro _; rfl) (hh : c.hot = none := by rfl) : WS c (.Assign [.Subscript (.Name "pen" p) (.Constant (.str "digits") j p3) p2] e pos) T Δ :=
  ws_putK (hh := hh) 0 hN hv hi (h.mono fun y ⟨i, ey, q⟩ => by subst ey; exact we_str ⟨.inr "digits", rfl, pen_small, q⟩) hs
theorem ws_pCount (hN : c.N[0]? = some ("pen" : Str)) (hv : Vis c.sc "pen") (hi : Δ[0]? = some (some (.oK q penK (penD l ns pa pd pk pf)))) (h : WE c e (fun y => ∃ i, y = .int i ∧ T.nx (Δ.set 0 (some (.oK q penK (penD l ns pa pd i pf))))) Δ)
    (hs : ∀ env, swapsWith e (some (.Subscript (.Name "pen" p) (.Constant (.str "count") j p3) p2)) pos.line env = pure false := by intro _; rfl) (hh : c.hot = none := by rfl) : WS c (.Assign [.Subscript (.Name "pen" p) (.Constant (.str "count") j p3) p2] e pos) T Δ :=
  ws_putK (hh := hh) 0 hN hv hi (h.mono fun y ⟨i, ey, q⟩ => by subst ey; exact we_str ⟨.inr "count", rfl, pen_small, q⟩) hs
theorem ws_pFold (hN : c.N[0]? = some ("pen" : Str)) (hv : Vis c.sc "pen") (hi : Δ[0]? = some (some (.oK q penK (penD l ns pa pd pk pf)))) (h : WE c e (fun y => ∃ i, y = .int i ∧ T.nx (Δ.set 0 (some (.oK q penK (penD l ns pa pd pk i))))) Δ)
    (hs : ∀ env, swapsWith e (some (.Subscript (.Name "pen" p) (.Constant (.str "fold") j p3) p2)) pos.line env = pure false := by intro _; rfl) (hh : c.hot = none := by rfl) : WS c (.Assign [.Subscript (.Name "pen" p) (.Constant (.str "fold") j p3) p2] e pos) T Δ :=
  ws_putK (hh := hh) 0 hN hv hi (h.mono fun y ⟨i, ey, q⟩ => by subst ey; exact we_str ⟨.inr "fold", rfl, pen_small, q⟩) hs
end
end DL
end
section
set_option Elab.async false
set_option linter.all false
set_option maxRecDepth 100000
set_option maxHeartbeats 4000000
/-! DL16: a, b = .. where a name is a cell; signs joined. -/
namespace DL
open PySem PySem.Spec PyProof.Rows L2
section
variable {c : Cf} {e a b : Expr} {es : List Expr} {Q : D → Prop} {Δ : Dl} {pos p p2 p3 : Pos} {T : Te}
theorem ws_unpackS {ts : List Expr} {kk : Nat} {tp : Pos} (js : List Nat) (h : WE c e (fun d => WG c js (.Tuple ts kk tp) d T.nx Δ) Δ) (hw : ∀ env : Env, env.scope = c.sc → swappedStores [.Tuple ts kk tp] e env = pure none) (hs : ∀ env, swapsWithSole [.Tuple ts kk tp] e pos.line env = pure false := by intro _; rfl) :
    WS c (.Assign [.Tuple ts kk tp] e pos) T Δ := fun X H0 Z0 hX σ H Z hS =>
  Ws.of (ps_asg pe_we pg_we (hs _) (hw _ hX.sc) rfl) ((h X H0 Z0 hX.toCtxOk σ H Z hS).mono fun v H1 ⟨Z1, d, s1, r1, q⟩ =>
    (q X H0 Z0 hX.toCtxOk σ H1 Z1 v (hS.step s1) r1).mono fun σ2 H2 ⟨Z2, Δ2, s2, hS2, _, q2⟩ => ⟨Z2, Δ2, s1.le.trans s2.le, hS2, q2⟩)
end
end DL
end
section
set_option Elab.async false
set_option linter.all false
set_option maxRecDepth 100000
set_option maxHeartbeats 4000000
/-! DL17: exceptions of a class of one's own over an own base: its __init__, raising. -/
namespace DL
open PySem PySem.Spec PyProof.Rows L2
/-- the base's facts: Base.__init__ is ValueError's -/
structure PeB (K : PySem.W.Frag) (mg : Str → Option Value) (bx : Str) (B : Addr) : Prop where
  g : mg bx = some (.ref B)
  ga : PySem.W.specialIn K (.ref B) "__getattribute__" = some (some (.builtin "type.__getattribute__"))
  rd : PySem.W.readsIn K B (.type "type") = true
  fi : PySem.W.findCls K (.ref B) (.type "type") "__init__" = some (.val (.builtin "ValueError.__init__"))
section
variable {X : Cx} {e : Expr} {es : List Expr} {ta : TA} {p1 p2 pos : Pos}
theorem pe_peinit {bx : Str} {B : Addr} {pl : Sem Bool} (T : PeB X.K X.mg bx B) (hg : Gl X bx) (ha : PA X (e :: es) ta)
    (hc : eval (.Call (.Attribute (.Name bx p1) "__init__" p2) (e :: es) [] pos) X.env = (do
      let ov ← eval (.Name bx p1) X.env
      standAt p2.atName
      let (f, first) ← holding [ov] (getMethod ov "__init__" pl)
      callWith pos f first (backTo pos (starEach (e :: es) X.env)) (backToKw pos (keywordEach [] X.env))) := by rfl)
    (he : starEach (e :: es) X.env = (false, eval e X.env) :: starEach es X.env := by rfl) (hpl : (backTo pos (starEach es X.env)).any (·.1) = false := by rfl) (hdb : (bx == ("__debug__" : Str)) = false := by decide) :
    PE X (.Call (.Attribute (.Name bx p1) "__init__" p2) (e :: es) [] pos) (tVeI X.K ta) := by
  refine ⟨fun pins s σ H Q I h => ?_⟩
  refine PySem.W.methodCall_KW (ld_glob I hg T.g ?_ hdb) hc
  refine PySem.W.method_cls I.kIn T.ga (PySem.W.cls_value I.kIn T.rd T.fi (by decide +kernel) ?_)
  show wpAny _ _ (callWith pos (Value.builtin "ValueError.__init__") [] (backTo pos (starEach (e :: es) X.env)) []) _ _ _
  refine PyProof.Rows.callWith_method1 (thn (ha.run pos pins _ σ H _ (I.tok _) h) fun us s1 ⟨vs, H1, I1, r1, a, C, ws, ev, hl, T, ea, q⟩ => ?_) he hpl
  subst ev
  cases r1 with
  | @cons _ u0 _ ur ra rw' =>
    obtain rfl : u0 = Value.ref a := ra
    have hlen : ur.length ≤ sizeLine := by
      rw [← Paired.length rw', sizeLine_eq]
      omega
    exact oinit_ok T I1 ea hlen fun s' J => ⟨.non, H1, J, rfl, q⟩
end
theorem zip_rev {α β : Type} : ∀ {ns : List α} {vs : List β}, ns.length = vs.length → (ns.zip vs).reverse = ns.reverse.zip vs.reverse
  | [], [], _ => rfl
  | n :: ns, v :: vs, h => by
    have h' : ns.length = vs.length := by simpa using h
    rw [List.zip_cons_cons, List.reverse_cons, zip_rev h', List.reverse_cons, List.reverse_cons, List.zip_append (by rw [List.length_reverse, List.length_reverse]; exact h')]
    rfl
  | [], _ :: _, h => by simp at h
  | _ :: _, [], h => by simp at h
theorem Rps.rev {K : PySem.W.Frag} {Z : Sh} : ∀ {vs : List V} {ds : List D}, Rps K Z vs ds → Rps K Z vs.reverse ds.reverse
  | _, _, .nil => .nil
  | _, _, .cons r t => by
    rw [List.reverse_cons, List.reverse_cons]
    exact (Rps.rev t).append (.cons r .nil)
/-- what the __init__ of an own exception class keeps: its arguments under these names -/
def spX (C : Addr) (ns : List Str) : Sp := fun vs H Q _ => ∃ a ws, vs = .ref a :: ws ∧ ws.length = ns.length ∧ H a = some (exo a C none) ∧ ∀ d, H d = none → d ≠ a → Q .non (upd (upd H d (exd d (ns.zip ws).reverse)) a (exo a C (some d)))
/-- X(..): what is known of the class -/
structure XMk (P : Program) (w : World) (K : PySem.W.Frag) (mg : Str → Option Value) (base : Heap) (x : Str) (C : Addr) (ns : List Str) : Prop where
  ex : ∃ fI fd ps, OexC K C ∧ mg x = some (.ref C) ∧ PySem.W.findIn K (.ref C) "__init__" = some (some (.ref fI)) ∧ PySem.W.typeIn K (.ref fI) = some (.type "function") ∧ Binds K fd ps [] ∧ FnOk P w K mg base CX0 2 fI fd ps (spX C ns)
section
variable {c : Cf} {e : Expr} {es : List Expr} {Δ : Dl} {p pos pos2 : Pos} {T : Te}
theorem ws_raise {x : Str} {C : Addr} {ns : List Str} (M : XMk c.P c.w c.K c.mg c.base x C ns) (hj : 3 ≤ c.k) (hg : Glo c x) (h : WA c (e :: es) (fun ds => ds.length = ns.length ∧ c.W ⟨C, ns.reverse, ds.reverse⟩) Δ) (hs : (e :: es).any isStar = false := by rfl) (hn : ns.length ≤ 1000 := by decide)
    (hdb : (x == ("__debug__" : Str)) = false := by decide) (hh : c.hot = none := by rfl) : WS c (.Raise (some (.Call (.Name x p) (e :: es) [] pos)) none pos2) T Δ := fun X H0 Z0 hX σ H Z hS => by
  obtain ⟨fI, fd, ps, O, mgx, iC, tI, hb, F⟩ := M.ex
  have F' : FnOk X.prog X.w X.K X.mg X.base CX0 2 fI fd ps (spX C ns) := by rw [hX.P, hX.w, hX.K, hX.mg, hX.base]; exact F
  have he : starEach (e :: es) X.env = (false, eval e X.env) :: starEach es X.env := star1 (by rw [List.any_cons, Bool.or_eq_false_iff] at hs; exact hs.1)
  have hpl : (backTo pos (starEach es X.env)).any (·.1) = false := star0 (by rw [List.any_cons, Bool.or_eq_false_iff] at hs; exact hs.2)
  refine Ws.of (ps_raise (hX.calm hh) hX.tk (pmk_oex (by rw [hX.K]; exact O) (by rw [hX.K]; exact iC) (by rw [hX.K]; exact tI) F' ((hX.room hh).mono hj) (by rw [hX.K]; exact hb) .nil pass0 (hX.gl hg) (by rw [hX.mg]; exact mgx) pa_we hdb he hpl)) ?_
  refine (h X H0 Z0 hX.toCtxOk σ H Z hS).mono fun vs H1 ⟨Z1, ds, s1, r1, hl, hw⟩ => ⟨by rw [r1.length, hl]; exact hn, fun a ha => ?_⟩
  refine ⟨a, vs, by rw [List.append_nil], by rw [r1.length, hl], upd_same, fun d hd hda => ⟨rfl, d, (ns.zip vs).reverse, upd_same, ?_, ?_, ?_⟩⟩
  · rw [upd_ne hda, upd_same]
  · rw [upd_ne hda] at hd; exact hd
  · have hd1 : H1 d = none := by rw [upd_ne hda] at hd; exact hd
    have eH : upd (del (upd (upd (upd H1 a (exo a C none)) d (exd d (ns.zip vs).reverse)) a (exo a C (some d))) a) d (.xd (ns.zip vs).reverse) = upd H1 d (.xd (ns.zip vs).reverse) := by
      funext b
      by_cases hb1 : b = d
      · rw [hb1, upd_same, upd_same]
      · rw [upd_ne hb1, upd_ne hb1]
        by_cases hb2 : b = a
        · rw [hb2, del_same, ha]
        · rw [del_ne hb2, upd_ne hb2, upd_ne hb1, upd_ne hb2]
    rw [eH]
    have el : ns.length = vs.length := by rw [r1.length, hl]
    have st : Stp H1 Z1 (upd H1 d (.xd (ns.zip vs).reverse)) (shr Z1 d (fz (.xd (ns.zip vs).reverse))) := .newS s1.ok hd1 rfl
    refine ⟨_, ⟨C, ns.reverse, ds.reverse⟩, (hS.stp.trans s1).trans st, ⟨rfl, d, vs.reverse, rfl, ?_, by rw [List.length_reverse, List.length_reverse]; exact el, (r1.le st.le).rev⟩, hw⟩
    rw [shr_same, zip_rev el]
end
end DL
end
section
set_option Elab.async false
set_option linter.all false
set_option maxRecDepth 100000
set_option maxHeartbeats 4000000
/-! DL18: isinstance(e, X) for a caught exception that has fields. -/
namespace DL
open PySem PySem.W
section
variable {prog : Program} {w : World} {A : Around} {E : Value → Shared → Prop} {s : Shared} {K : Frag} {x D : Addr} {ox : Obj} {od : Option Obj}
theorem obj_data {C : Addr} {name : Str} {a g : Value} (hc : (clsIn K C).isSome = true) (ha : findIn K (.ref C) name = some (some a)) (hg : specialIn K a "__get__" = some (some g)) (ht : takesIn K a = some true) : findObj K C od name = some (.bind g a) := by
  obtain ⟨cd, hc⟩ := Option.isSome_iff_exists.mp hc
  unfold findObj
  rw [hc, Option.bind_some, ha, Option.bind_some]
  simp [hg, ht]
theorem exc_class {Q : Option Value → Shared → Prop} (T : L2.ExcC K D) (X : K.In s.heap) (I : InstAt s.heap x ox D od) (h : Q (some (.ref D)) { s with toks := s.toks + 1 }) : wpAny (model prog w) A (getAttr? (.ref x) "__class__") Q E s := by
  have fo : findObj K D od "__class__" = some (.bind (.builtin "getset_descriptor.__get__") (.builtin "object.__class__")) := obj_data (by obtain ⟨cd, hc, _⟩ := any_some T.hd; rw [hc]; rfl) T.ha T.hn T.ht
  obtain ⟨hp, g, d, t, os⟩ := s
  have Lt := I.type (M := model prog w)
  have Lf := looks_find (M := model prog w) X I fo
  have kin : Looks (model prog w) hp (isInstance (.ref x) (.type "BaseException")) true := Lt.andThen (looks_subIn X T.hs)
  have ne : (Value.builtin "BaseException.__getattribute__" == Value.builtin "object.__getattribute__") = false := by decide +kernel
  unfold getAttr? getAttrBy? getAttrBy
  refine wpAny_bind (wpAny_mkText (wpAny_bind (wpAny_attempt (wpAny_holding (wpAny_bind (Lt.at (wpAny_bind ((looks_findIn (M := model prog w) X T.hg).at ?_))))))))
  show wpAny _ _ (if (onTheHeap (Value.ref D) && Value.builtin "BaseException.__getattribute__" == Value.builtin "object.__getattribute__") = true then _ else _) _ _ _
  rw [ne, Bool.and_false, if_neg Bool.false_ne_true]
  unfold getAttrByItsOwn hookBefore
  refine wpAny_bind ?_
  rw [if_pos (show onTheHeap (Value.ref D) = true from rfl)]
  refine (looks_findIn (M := model prog w) X T.hk).at ?_
  refine wpAny_bind (wpAny_attempt (wpAny_holding ?_))
  unfold callGetattribute
  rw [show (false && onTheHeap (Value.builtin "BaseException.__getattribute__")) = false from rfl, if_neg Bool.false_ne_true]
  unfold boundAndCalled
  rw [PySem.F.excAttr_ValueError.ga.bind (.ref x)]
  refine wpAny_bind (wpAny_pure ?_)
  show wpAny _ _ (call (.builtin "BaseException.__getattribute__") [.ref x, .str "__class__" t]) _ _ _
  refine wpAny_call (codeAny_call_builtin PySem.F.excAttr_ValueError.ga.plain PySem.F.entry_bexc_ga ?_)
  refine @check_slot (model prog w) _ _ ⟨hp, g, d, t + 1, os⟩ "BaseException.__getattribute__" "BaseException" "__getattribute__" (.ref x) [.str "__class__" t] [] _ (by decide +kernel) (by decide +kernel) kin (PySem.F.args_bexc_ga (.ref x) (.str "__class__" t)) ?_
  unfold Builtin.«object.__getattribute__»
  refine wpAny_bind (wpAny_of_eq (a := ((Value.ref x : Value), [Value.str "__class__" t])) (by first | rfl | (simp only [slotArgs]; rfl)) ?_)
  refine wpAny_bind (wpAny_pure (wpAny_bind (Lt.at (wpAny_bind (Lf.at ?_)))))
  show wpAny _ _ (holding [Value.builtin "object.__class__"] (call (.builtin "getset_descriptor.__get__") [.builtin "object.__class__", .ref x, .ref D]) >>= ret) _ _ _
  refine wpAny_bind (wpAny_holding (wpAny_call (class_get (s := ⟨hp, g, d, t + 1, os⟩) (ox := ox) (od := od) X I T.hm ?_)))
  refine wpAny_pure ?_
  show wpAny _ _ (handedOut (.ref D)) _ _ _
  rw [handedOut_of (v := .ref D) rfl]
  first
    | exact wpAny_pure (wpAny_pure h)
    | exact wpAny_pure h
    | exact wpAny_pure (wpAny_bind (wpAny_pure (wpAny_pure h)))
theorem exc_kit (T : L2.ExcC K D) : KitX K (.ref x) (.ref D) (fun h => ∃ ox od, InstAt h x ox D od) where
  ty := fun _ _ _ ⟨_, _, I⟩ => I.type
  it := fun _ _ X _ => by
    obtain ⟨cd, hc, _⟩ := any_some T.hd
    unfold clsIn at hc
    split at hc
    · rename_i ho
      intro A' Q' E' s' k q
      unfold isType loadHead
      exact wpAny_bind (wpAny_loadPart (k _ _ (X _ _ ho)) (wpAny_pure q))
    · cases hc
  ne := fun h tp dd its n sl X htp => by
    obtain ⟨cd, hc, _⟩ := any_some T.hd
    refine Bool.eq_false_iff.mpr fun q => ?_
    have e : D = tp := Value.ref.inj (beq_iff_eq.mp q)
    subst e
    unfold clsIn at hc
    split at hc
    · rename_i ho
      cases (X _ _ ho).symm.trans htp
    · cases hc
  ca := fun X ⟨_, _, I⟩ k => exc_class T X I k
end
end DL
namespace DL
open PySem PySem.Spec PyProof.Rows L2
/-- isinstance(e, c), e the exception that the suite holds, with a dict -/
theorem call_isD {X : Cx} {a C dd : Addr} {oe : Obj} {pn : List (Addr × Obj)} (T : ExcC X.K C) (hz : Zc (.ref C) (some dd) oe) (hf : ∃ vs, oe.data = .fields vs) :
    CallR (X.suite a ((a, oe) :: pn)) (.builtin "isinstance") (fun xs H Q => ∃ (c : V) (cv : Value) (b : Bool) (fs : List (Str × V)), xs = [.ref a, c] ∧ H dd = some (.xd fs) ∧ (∀ u, RelV c u → u = cv) ∧ PySem.W.kitOne X.K (.ref C) cv = some b ∧ Q (.bl b) H) := by
  intro pins s σ H xs us Q I r h
  obtain ⟨c, cv, b, fs, rfl, hd, hcv, e, q⟩ := h
  cases r with
  | cons rx rr =>
    cases rr with
    | cons rt rr =>
      cases rr
      cases rx
      have ec := hcv _ rt
      subst ec
      obtain ⟨hget, _⟩ := I.pin (a, oe) (List.mem_append.mpr (.inl List.mem_cons_self))
      obtain ⟨vs, hv⟩ := hf
      have hx : ObjOk X.prog X.w H s.heap dd (.xd fs) := I.hok dd _ hd
      obtain ⟨mA, hns, hr⟩ := hx
      obtain ⟨od, ho, hl⟩ := lookIn_ns hns
      have J : PySem.W.InstAt s.heap a oe C (some od) := ⟨hget, hz.1, by unfold PySem.W.notCls; rw [hv] <;> rfl, by rw [hz.2]; exact ho⟩
      exact PySem.W.kia_one (exc_kit T) I.kIn ⟨_, _, J⟩ e (fun z => nomatch z) fun tk => ⟨.bl b, H, I.kept (t' := tk) fun _ _ z => z, rfl, q⟩
end DL
end
section
set_option Elab.async false
set_option linter.all false
set_option maxRecDepth 100000
set_option maxHeartbeats 4000000
/-! DL19: an except suite over data; a def that calls what it got and tells of the exception. -/
namespace DL
open PySem PySem.Spec PyProof.Rows L2
section
variable {c : Cf} {e a b : Expr} {es : List Expr} {Q : D → Prop} {Δ : Dl} {pos p p2 p3 : Pos} {T : Te}
theorem vc_isiE {x C dd C' : Addr} {ns : List Str} {l : List D} {k : Bool} (hc : c.hot = some (x, C, dd)) (T : ExcC c.K C) (hk : PySem.W.kitOne c.K (.ref C) (.ref C') = some k) (q : Q (.bl k)) : VC c (.builtin "isinstance") [.xc x C dd ns l, .adr C'] Q := fun X H0 Z0 hX H Z vs ok r => by
  obtain ⟨v, u, rfl, r1, r2⟩ := r.two
  cases r2
  obtain ⟨X0, oe, pn, rfl, hz, hf⟩ := hX.su x C dd hc
  have hK : X0.K = c.K := hX.K
  cases r1 with
  | xc z el rr =>
    obtain ⟨o, ho, eo⟩ := ok _ _ z
    have eo : o = _ := eo
    subst eo
    exact ⟨_, call_isD (X := X0) (by rw [hK]; exact T) hz hf, _, .ref C', k, _, rfl, ho, fun u hu => hu, by rw [hK]; exact hk, opost ok .bl q⟩
theorem we_xfld {x C dd : Addr} {f : Str} (hc : c.hot = some (x, C, dd)) (T : XfC c.K C) (hno : PySem.W.findIn c.K (.ref C) f = some none) (h : WE c e (fun d => ∃ ns l y, d = .xc x C dd ns l ∧ (ns.zip l).lookup f = some y ∧ Q y) Δ) (hb : ∀ env w, attributeBase e f env w = w := by intro _ _; rfl) : WE c (.Attribute e f pos) Q Δ := fun X H0 Z0 hX σ H Z hS => by
  obtain ⟨X0, oe, pn, rfl, hz, hf⟩ := hX.su x C dd hc
  have hK : X0.K = c.K := hX.K
  refine We.of (pe_xf (X := X0) (by rw [hK]; exact T) (by rw [hK]; exact hno) hz hf pe_we (hb _ _)) ?_
  refine (h _ H0 Z0 hX σ H Z hS).mono fun v H1 ⟨Z1, d, s1, r1, ns, l, y, ed, hl, q⟩ => ?_
  subst ed
  cases r1 with
  | xc z el rr =>
    obtain ⟨o, ho, eo⟩ := s1.ok _ _ z
    have eo : o = _ := eo
    subst eo
    obtain ⟨w, hw, rw'⟩ := rr.lookup hl
    exact ⟨rfl, rfl, dd, _, w, rfl, ho, hw, Z1, y, s1, rw', q⟩
end
/-- what the def makes of what it got -/
def TTd (K : PySem.W.Frag) (okX : XD → Prop) (told : XD → D) (none_ : D) : (XK → Hp → VK → Prop) → Hp → VK → Prop := fun tl H Q => ∃ (Z : Sh) (W0 : XD → Prop) (Nm : Prop), OkZ H Z ∧
  (∀ R : VK, (∀ v H' Z', Stp H Z H' Z' → Nm → R v H') → tl (fun cls d H' => ∃ Z' x, Stp H Z H' Z' ∧ RX K Z' H' cls d x ∧ W0 x) H R) ∧
  (Nm → ∀ v H' Z', Stp H Z H' Z' → Rr K H H' Z' v none_ → Q v H') ∧ ∀ x, W0 x → okX x ∧ ∀ v H' Z', Stp H Z H' Z' → Rr K H H' Z' v (told x) → Q v H'
section
variable {X : Cx}
theorem caught_gives (gd : X.A.guards = some []) (un : X.A.units + 200 < cLine) {Ng ps : List Str} {x a e n q : Str} {sg : Scope} {g CS : Addr} {cdg : Value} {okX : XD → Prop} {told : XD → D} {s1 : Str} {j k0 : Nat} {b₀ : Stmt} {suite : List Stmt} {p1 p2 p3 p4 p5 p6 p7 p8 p9 : Pos} (Sg : FnScope Ng ps sg)
    (h0 : ∀ f : Addr, (L2.start Ng [V.ref f])[0]? = some (some (V.ref f))) (hn : Ng[1]? = some n) (hln : sg.names.lookup n = some .local) (hge : sg.names.lookup e = some .globalImplicit) (hme : X.mg e = some (.ref CS)) (hde : (e == ("__debug__" : Str)) = false)
    (hex : ∀ y, okX y → PySem.W.exmOne X.K (.ref y.C) (.ref CS) = some true)
    (hsu : ∀ (y : XD) (w dd : Addr), okX y → WB ⟨X.prog, X.w, X.K, X.mg, X.base, Ng, sg, 0, fun _ => False, fun _ => true, some (w, y.C, dd), some ⟨[], none⟩⟩ (b₀ :: suite) ⟨fun _ => False, fun d _ => d = told y, fun _ => False, fun _ => False⟩ ((List.replicate Ng.length none).set 1 (some (.xc w y.C dd y.ns y.ds)))) :
    LamX.GivesTo X Ng x sg g cdg [.Try [.Expr (.Call (.Name a p1) [] [] p2) p3] [.ExceptHandler (some (.Name e p4)) (some n) (b₀ :: suite) p5] [] [] p6, .Return (some (.Tuple [.Constant (.str s1) j p7] k0 p8)) p9] a q (TTd X.K okX told (.tup [.str s1])) := by
  intro f c' s H Q tl act hc ⟨Z, W0, Nm, ok, ht, hnm, hx⟩
  refine ⟨_, pss_cons (ps_try_as (X := (cxOf C8.CX0 X.prog X.w X.K X.mg X.base Ng x sg g cdg X.A X.stack s H C8.E0).nox) (i := 1) (c := .ref CS)
      (tb := fun W D σ H' => ∃ Ech : XK, (∀ cls d σ' H', Ech cls d H' → W cls d σ' H') ∧ σ[0]? = some (some (.ref f)) ∧ H' c' = some (LamX.CodeO c' q) ∧ tl Ech H' (fun _ H2 => D.nx σ H2))
      (ts := fun w cls d D σ H' => ∀ oe pn, Zc cls d oe → (∃ vs, oe.data = .fields vs) → Wss ((cxOf C8.CX0 X.prog X.w X.K X.mg X.base Ng x sg g cdg X.A X.stack s H C8.E0).nox.suite w ((w, oe) :: pn)) (b₀ :: suite) D σ H')
      rfl rfl Sg.nd hn hln ⟨hge, hde, .inl hme⟩ LamX.takes0 (fun W pn xe tk _ => ?_) (fun w oe cls d pn hz hf => ⟨fun pins s' σ H' D I h => h oe pn hz hf pins s' I⟩)) (pss_one (ps_ret (pe_tup (pa_cons pe_str pa_nil)))), ?_⟩
  · refine ⟨fun pins s' σ H' D I h' => ?_⟩
    obtain ⟨Ech, hW, h1, h2, h3⟩ := h'
    have hp := pss_one (ps_expr (pos := p3) (act W pn xe Ech p1 p2 tk hW))
    exact hp.run pins s' σ H' D I ⟨h1, h2, h3⟩
  · refine ⟨fun cls d H' => ∃ Z' x, Stp H Z H' Z' ∧ RX X.K Z' H' cls d x ∧ W0 x, fun cls d σ' H' ⟨Z', y, st, rx, hw⟩ => ?_, h0 f, hc, ht _ fun v H' Z' st nm => ?_⟩
    · obtain ⟨okx, hq⟩ := hx y hw
      obtain ⟨rfl, dd, vs, rfl, zd, el, rr⟩ := rx
      refine ⟨true, hex y okx, fun _ w hw0 => ?_, fun z => nomatch z⟩
      intro oe pn hz hf pins s' I
      have hlen := I.len
      have hlen2 : (σ'.set 1 (some (V.ref w))).length = Ng.length := hlen
      have h1 : 1 < Ng.length := (List.getElem?_eq_some_iff.mp hn).1
      have hS : Slots X.K H Z (σ'.set 1 (some (V.ref w))) H' Z' ((List.replicate Ng.length none).set 1 (some (.xc w y.C dd y.ns y.ds))) := by
        refine ⟨ok, st, by rw [hlen2]; simp, fun i d' q' => ?_, fun i i' d1 d2 l q1 q2 o1 o2 _ _ => ?_⟩
        · rcases setAt q' with ⟨rfl, e2, _⟩ | ⟨_, q'⟩
          · cases e2
            exact ⟨.ref w, by rw [List.getElem?_set_self (by rw [List.length_set] at hlen2; rw [hlen2]; exact h1)], .inl (.xc zd el rr)⟩
          · rw [List.getElem?_replicate] at q'
            split at q' <;> cases q'
        · rcases setAt q1 with ⟨_, e2, _⟩ | ⟨_, q1⟩
          · cases e2; cases o1
          · rw [List.getElem?_replicate] at q1
            split at q1 <;> cases q1
      have hX : CtxS ⟨X.prog, X.w, X.K, X.mg, X.base, Ng, sg, 0, fun _ => False, fun _ => true, some (w, y.C, dd), some ⟨[], none⟩⟩ H Z ((cxOf C8.CX0 X.prog X.w X.K X.mg X.base Ng x sg g cdg X.A X.stack s H C8.E0).nox.suite w ((w, oe) :: pn)) :=
        { P := rfl, w := rfl, K := rfl, mg := rfl, base := rfl, N := rfl, sc := rfl, calm := fun z => (nomatch z),
          su := fun a C d z => by cases z; exact ⟨_, oe, pn, rfl, hz, hf⟩
          lm := fun L z => by cases z; exact ⟨⟨gd, by show X.A.units + 3 + 100 < cLine; omega⟩, .nil, fun _ _ _ z => (nomatch z)⟩, room := fun z => (nomatch z), nd := Sg.nd, fn := fun _ _ _ => .inl rfl,
          tk := LamX.takes0.imp fun cls d σ H' ⟨Z', y, st', rx, hw⟩ => hw, own := PassesOwn.never }
      refine thn (hsu y w dd okx _ H Z hX _ H' Z' hS pins s' I) fun fl s2 qq => sp_mono qq (fun σ2 H2 ⟨_, _, _, _, z⟩ => z.elim) (fun v H2 ⟨Z2, d, σ2, Δ2, hS2, r2, ed⟩ => ?_) (fun _ _ ⟨_, _, _, _, z⟩ => z.elim) fun _ _ ⟨_, _, _, _, z⟩ => z.elim
      subst ed
      exact hq v H2 Z2 hS2.stp r2
    · refine ⟨by show 1 ≤ sizeLine; decide, fun p hp => ?_⟩
      have s2 : Stp H' Z' (upd H' p (.tup [.str s1])) (shr Z' p (fz (.tup [.str s1]))) := .newS st.ok hp rfl
      exact hnm nm _ _ _ (st.trans s2) (.inl (.tup shr_same (.cons .str .nil)))
end
end DL
end
section
set_option Elab.async false
set_option linter.all false
set_option maxRecDepth 100000
set_option maxHeartbeats 4000000
/-! DL20: a lambda handed to a def that calls it; defs that make lambdas. -/
namespace DL
open PySem PySem.Spec PyProof.Rows L2
/-- the code at b stands in a table of the name q -/
def InTab (T : List (Addr × Str)) (H : Hp) (b : Addr) (q : Str) : Prop := ∃ P ps pos, (P, q) ∈ T ∧ H P = some (.tbl ps) ∧ codeAmong pos ps.toList = some (.ref b)
theorem nocode {b : Addr} {q : Str} (ps : Array Value) : LamX.CodeO b q ≠ .tbl ps := fun z => nomatch (show HO.ext _ = HO.tbl _ from z)
open Classical in
theorem tab_grow {Z : Sh} {H H1 : Hp} {T : List (Addr × Str)} (ok : OkZ H Z) (hne : T ≠ []) (t0 : TabsZ T Z H) (nt : NoT Z) (e : LamX.ExtN H H1) (t1 : LamX.Tabs T H1) : ∃ Z1, Stp H Z H1 Z1 := by
  have t := t0 hne
  let Z1 : Sh := fun b => match Z b with
    | some φ => some φ
    | none => if h : ∃ q, InTab T H1 b q then some (fz (LamX.CodeO b (choose h))) else none
  have old : ∀ {b φ}, Z b = some φ → Z1 b = some φ := fun {b φ} z => by show (match Z b with | some φ => _ | none => _) = _; rw [z]
  have new : ∀ {b}, Z b = none → Z1 b = if h : ∃ q, InTab T H1 b q then some (fz (LamX.CodeO b (choose h))) else none := fun {b} z => by show (match Z b with | some φ => _ | none => _) = _; rw [z]
  have le : Le Z Z1 := fun a φ z => old z
  have code : ∀ {b q}, InTab T H1 b q → H1 b = some (LamX.CodeO b q) := fun {b q} ⟨P, ps, pos, hm, hp, hc⟩ => by
    obtain ⟨ps1, g1, _, g3⟩ := t1 _ hm
    have g1 : H1 P = some (.tbl ps1) := g1
    rw [hp] at g1; cases g1
    obtain ⟨c, ec, hcc⟩ := g3 pos _ hc
    cases ec; exact hcc
  have new2 : ∀ {b q}, Z b = none → InTab T H1 b q → Z1 b = some (fz (LamX.CodeO b q)) := fun {b q} z i => by
    rw [new z, dif_pos ⟨q, i⟩]
    have k := (code (choose_spec ⟨q, i⟩)).symm.trans (code i)
    rw [Option.some.inj k]
  have nt1 : NoT Z1 := fun a φ z => by
    cases h : Z a with
    | some ψ => rw [old h] at z; cases z; exact nt a _ h
    | none =>
      rw [new h] at z
      split at z
      · cases z; exact .inr (.fz nocode)
      · cases z
  refine ⟨Z1, le, fun a φ z => ?_, fun a o ho z n => ⟨e a o ho n.1, ?_⟩, fun P' q' t' => ?_, fun P' q' z => ?_, fun a o ho n => ⟨o, e a o ho n, n⟩⟩
  · cases h : Z a with
    | some ψ =>
      rw [old h] at z; cases z
      obtain ⟨o, ho, hφ⟩ := ok a φ h
      rcases nt a φ h with ⟨q', rfl⟩ | nn
      · obtain ⟨ps1, g1, _⟩ := t1 _ (t.2 a q' h)
        exact ⟨_, g1, tabM_tbl _⟩
      · exact ⟨o, e a o ho (fun ps z => nn.1 ps (by rw [← z]; exact hφ)), hφ⟩
    | none =>
      rw [new h] at z
      split at z
      · rename_i hc
        cases z
        exact ⟨_, code (choose_spec hc), rfl⟩
      · cases z
  · rw [new z, dif_neg]
    intro ⟨q, i⟩
    have k := (e a o ho n.1).symm.trans (code i)
    exact n.2 _ _ (Option.some.inj k)
  · obtain ⟨_, z', ps', h', _⟩ := t'
    have hm := t.2 _ _ z'
    obtain ⟨ps1, g1, g2, g3⟩ := t1 _ hm
    have g1 : H1 P' = some (.tbl ps1) := g1
    refine ⟨nt1, le _ _ z', ps1, g1, g2, fun pos cv hc => ?_⟩
    obtain ⟨c, rfl, hcc⟩ := g3 pos cv hc
    have hcc : H1 c = some (LamX.CodeO c q') := hcc
    refine ⟨c, rfl, ?_⟩
    cases h : Z c with
    | none => exact new2 h ⟨P', ps1, pos, hm, g1, hc⟩
    | some ψ =>
      rw [old h]
      obtain ⟨o, ho, hψ⟩ := ok c ψ h
      rcases nt c ψ h with ⟨q2, rfl⟩ | nn
      · obtain ⟨ps2, k1, _⟩ := t1 _ (t.2 c q2 h)
        have k1 : H1 c = some (.tbl ps2) := k1
        rw [k1] at hcc
        exact absurd (Option.some.inj hcc).symm (nocode _)
      · have ht : ∀ ps, o ≠ .tbl ps := fun ps z => nn.1 ps (by rw [← z]; exact hψ)
        have k := (e c o ho ht).symm.trans hcc
        have k2 : o = LamX.CodeO c q' := Option.some.inj k
        rw [nn.2 c q' (by rw [← k2]; exact hψ)]
  · cases h : Z P' with
    | some ψ => rw [old h] at z; cases z; rfl
    | none =>
      rw [new h] at z
      split at z
      · have k := Option.some.inj z
        have k2 : tabM q' (.tbl #[]) := tabM_tbl #[]
        rw [← k] at k2
        exact absurd (show HO.tbl #[] = _ from k2).symm (nocode #[])
      · cases z
theorem TabsZ.tabs {T : List (Addr × Str)} {Z : Sh} {H : Hp} (t : TabsZ T Z H) (ok : OkZ H Z) : LamX.Tabs T H := fun p hp => by
  obtain ⟨_, _, ps, h1, h2, h3⟩ := (t (fun e => by rw [e] at hp; cases hp)).1 p hp
  refine ⟨ps, h1, h2, fun pos cv hc => ?_⟩
  obtain ⟨c, e1, z⟩ := h3 pos cv hc
  obtain ⟨o, ho, eo⟩ := ok _ _ z
  have eo : o = _ := eo
  exact ⟨c, e1, by rw [ho, eo]⟩

/-! ### the def that calls what it got -/
structure Caught (P : Program) (w : World) (K : PySem.W.Frag) (mg : Str → Option Value) (base : Heap) (x : Str) (okX : XD → Prop) (told : XD → D) (none_ : D) : Prop where
  ex : ∃ (g : Addr) (a : Str) (pg : Arguments) (bg : List Stmt) (sg : Scope) (kV doc pm cdv ct oc : Value) (an od : Option Addr) (osl : Array (Option Value)) (Ng : List Str),
    mg x = some (.ref g) ∧ PySem.W.keepIn K (.ref g) = true ∧ K.lookup g = some ⟨oc, od, .func (PySem.W.fnOf x x pg bg sg .none kV doc pm an cdv ct), osl⟩ ∧ PySem.W.codeIn K cdv x = true ∧ L2.Binds K (PySem.W.fnOf x x pg bg sg .none kV doc pm an cdv ct) [a] [] ∧
    FnScope Ng [a] sg ∧ Ng[0]? = some a ∧ Vis sg a ∧ ((a == ("__debug__" : Str)) = false ∧ (a == ("__classdict__" : Str)) = false) ∧
    ∀ (X : Cx) (q : Str), X.prog = P → X.w = w → X.K = K → X.mg = mg → X.base = base → X.A.guards = some [] → X.A.units + 200 < cLine → LamX.GivesTo X Ng x sg g cdv bg a q (TTd K okX told none_)
def lamC (c : Cf) (sc : Scope) (k : Nat) (W : XD → Prop) : Cf := { c with sc := sc, k := k, W := W, st := fun _ => false, hot := none, lam := none }
def noOwn (Δ : Dl) : Dl := Δ.map fun o => match o with
  | none => none
  | some d => if d.own then none else some d
theorem noOwn_get {Δ : Dl} {i : Nat} {d : D} (h : (noOwn Δ)[i]? = some (some d)) : Δ[i]? = some (some d) ∧ d.own = false := by
  unfold noOwn at h
  rw [List.getElem?_map] at h
  cases q : Δ[i]? with
  | none => rw [q] at h; cases h
  | some o =>
    rw [q] at h
    cases o with
    | none => cases h
    | some d' =>
      have h : (some (if d'.own then none else some d') : Option (Option D)) = some (some d) := h
      cases e : d'.own with
      | true => rw [e] at h; cases h
      | false => rw [e] at h; cases h; exact ⟨rfl, e⟩
theorem Slots.lamb {K : PySem.W.Frag} {H0 H H1 : Hp} {Z0 Z Z1 : Sh} {σ : L2.St} {Δ : Dl} (h : Slots K H0 Z0 σ H Z Δ) (s : Stp H Z H1 Z1) : Slots K H1 Z1 σ H1 Z1 (noOwn Δ) := by
  refine ⟨s.ok, .refl s.ok, by unfold noOwn; rw [List.length_map]; exact h.len, fun i d e => ?_, fun i j d d' l e1 e2 o1 => ?_⟩
  · obtain ⟨e, ho⟩ := noOwn_get e
    obtain ⟨v, e1, r⟩ := h.get e ho
    exact ⟨v, e1, .inl (r.le s.le)⟩
  · obtain ⟨_, ho⟩ := noOwn_get e1
    rw [ho] at o1; cases o1
section
variable {c : Cf} {e : Expr} {es : List Expr} {Q : D → Prop} {Δ : Dl} {pos p lpos : Pos}
theorem wo_caught {x : Str} {params : Arguments} {body : Expr} {scope : Scope} {okX : XD → Prop} {told : XD → D} {none_ : D} {L : Lm} {c0 P : Addr} {q : Str} (k : Nat) (F : Caught c.P c.w c.K c.mg c.base x okX told none_) (hl : c.lam = some L) (hm : L.me = some (c0, P, q)) (hk : k + 2 ≤ c.k) (hg : Glo c x)
    (hs : LamX.lamSB c.sc scope = true) (hb : WO (lamC c scope k fun y => okX y ∧ Q (told y)) body (fun _ => Q none_) (noOwn Δ))
    (hdef : ∀ env, defaultsOf params env = ([], []) := by intro _; rfl) (hbind : ∀ (q : Str) (cl : List (Str × Addr)) (pm cv ctv : Value), bindArgs (PySem.W.kla_fn "<lambda>" q params body scope cl pm cv ctv) ⟨[], []⟩ = pure [] := by intro _ _ _ _ _; rfl)
    (hdb : (x == ("__debug__" : Str)) = false := by decide) (hh : c.hot = none := by rfl) : WO c (.Call (.Name x p) [.Lambda params body scope lpos] [] pos) Q Δ := fun X H0 Z0 hX σ H Z hS => by
  obtain ⟨g, a, pg, bg, sg, kV, doc, pm, cdv, ct, oc, an, od, osl, Ng, mgx, kp, lk, hcg, hbd, Sg, hNg, hva, ⟨hda, hca⟩, hG⟩ := F.ex
  obtain ⟨⟨gd, _⟩, tz0, hme⟩ := hX.lm L hl
  have un : X.A.units + 200 < cLine := by have := (hX.room hh).un; omega
  obtain ⟨hcode, hq, TB, hmem⟩ := hme c0 P q hm
  have hne : L.T ≠ [] := fun e => by rw [e] at hmem; cases hmem
  have tz' : TabsZ L.T Z H := tz0.step hS.stp
  have tz := tz' hne
  have ls : LamX.LamS X.env.scope scope := LamX.lamS_by (by rw [hX.sc]; exact hs)
  subst hq
  refine We.of (LamX.pe_lamcall (T := L.T) (TT := TTd c.K okX told none_) (c := c0) (P := P) (k := k) (t := fun E σ' H' Q' => ∀ A outer s HH f c' n, Room k (A.deeper (LamX.lamEnv X scope n f c')) → ∀ hn : n = s.heap.objs.size, We (LamX.lamCx X A outer s HH E scope f c') body σ' H' Q')
    (hX.gl hg) (by rw [hX.mg]; exact mgx) (by rw [hX.K]; exact kp) (by rw [hX.K]; exact lk) (by rw [hX.K]; exact hcg) (by rw [hX.K]; exact hbd) Sg hNg hva (hG X _ hX.P hX.w hX.K hX.mg hX.base gd un) TB hcode hmem
    (fun p hp hP => by
      obtain ⟨_, z1, _⟩ := tz.1 p hp
      obtain ⟨_, z2, _⟩ := tz.1 _ hmem
      rw [hP] at z1
      have z2 : Z P = _ := z2
      rw [z1] at z2
      exact tabM_inj (Option.some.inj z2)) ((hX.room hh).mono hk) ls (hdef _) hbind (fun A outer s HH E f c' hr => ⟨fun pins s' σ' H' Q' I h => h A outer s HH f c' _ hr rfl pins s' I⟩) hdb hda hca) ?_
  refine ⟨tz'.tabs hS.ok, fun H1 eN T1 => ?_⟩
  obtain ⟨Z1, st1⟩ := tab_grow hS.ok hne tz' (tz.1 _ hmem).1 eN T1
  refine ⟨Z1, fun y => okX y ∧ Q (told y), Q none_, st1.ok, fun R hR A outer s HH f c' n hr hn => ?_, fun nm v H' Z' s r => oPost.mono hS.ok st1 ⟨Z', none_, s, r, nm⟩, fun y hy => ⟨hy.1, fun v H' Z' s r => oPost.mono hS.ok st1 ⟨Z', told y, s, r, hy.2⟩⟩⟩
  subst hn
  have tk : Takes (LamX.lamCx X A outer s HH (fun cls d H' => ∃ Z' x, Stp H1 Z1 H' Z' ∧ RX c.K Z' H' cls d x ∧ okX x ∧ Q (told x)) scope f c') (fun cls d _ H' => ∃ Z' x, Stp H1 Z1 H' Z' ∧ RX c.K Z' H' cls d x ∧ okX x ∧ Q (told x)) := takes_of rfl rfl rfl rfl
  have hX1 : CtxOk (lamC c scope k fun y => okX y ∧ Q (told y)) H1 Z1 (LamX.lamCx X A outer s HH (fun cls d H' => ∃ Z' x, Stp H1 Z1 H' Z' ∧ RX c.K Z' H' cls d x ∧ okX x ∧ Q (told x)) scope f c') :=
    { P := hX.P, w := hX.w, K := hX.K, mg := hX.mg, base := hX.base, N := hX.N, sc := rfl, calm := fun _ => rfl, su := fun _ _ _ z => (nomatch z),
      lm := fun _ z => (nomatch z),
      room := fun _ => hr, nd := hX.nd, fn := fun _ z => (nomatch z), tk := tk }
  exact (hb _ H1 Z1 hX1 σ H1 Z1 (hS.lamb st1)).mono fun v H' ⟨Z', d, s, r, q⟩ => hR v H' Z' s q
theorem we_caught {x : Str} {params : Arguments} {body : Expr} {scope : Scope} {okX : XD → Prop} {told : XD → D} {none_ : D} {L : Lm} {c0 P : Addr} {q : Str} (k : Nat) (F : Caught c.P c.w c.K c.mg c.base x okX told none_) (hl : c.lam = some L) (hm : L.me = some (c0, P, q)) (hk : k + 2 ≤ c.k) (hg : Glo c x)
    (hs : LamX.lamSB c.sc scope = true) (hb : WO (lamC c scope k fun y => okX y ∧ Q (told y).frz) body (fun _ => Q none_.frz) (noOwn Δ))
    (hdef : ∀ env, defaultsOf params env = ([], []) := by intro _; rfl) (hbind : ∀ (q : Str) (cl : List (Str × Addr)) (pm cv ctv : Value), bindArgs (PySem.W.kla_fn "<lambda>" q params body scope cl pm cv ctv) ⟨[], []⟩ = pure [] := by intro _ _ _ _ _; rfl)
    (hdb : (x == ("__debug__" : Str)) = false := by decide) (hh : c.hot = none := by rfl) : WE c (.Call (.Name x p) [.Lambda params body scope lpos] [] pos) Q Δ := we_of_wo (wo_caught (hh := hh) k F hl hm hk hg hs hb hdef hbind hdb)
end

/-! ### defs that make lambdas, or call such defs, or show things -/
def liftT (K : PySem.W.Frag) (T : List (Addr × Str)) (sp : DSp) : Sp := fun vs H Q E => ∃ Z ds Q0 E0, OkZ H Z ∧ TabsZ T Z H ∧ Rps K Z vs ds ∧ sp ds Q0 E0 ∧ (∀ d, Q0 d → ∀ v H' Z', Stp H Z H' Z' → Rr K H H' Z' v d → Q v H') ∧
  ∀ x, E0 x → ∀ cls d H' Z', Stp H Z H' Z' → RX K Z' H' cls d x → E cls d H'
/-- as FnOk, where nothing is being shown -/
structure FnT (P : Program) (w : World) (K : PySem.W.Frag) (mg : Str → Option Value) (base : Heap) (T : List (Addr × Str)) (k : Nat) (f : Addr) (fd : FuncData) (ps : List Str) (sp : DSp) : Prop where
  len : ∀ ds Q E, sp ds Q E → ds.length = ps.length
  go : ∀ (A : Around) (outer : List Env) (s : Shared) (H : Hp) (args : Args) (us : List Value) (vs : List V) (Q : VK) (E : XK), A.guards = some [] → Room k A → Env0 P w K mg base A outer s H → BindsTo s fd args (ps.zip us) → Vals vs us → liftT K T sp vs H Q E →
    codeAny (model P w) A (.call (.ref f) args) (CR (L2.CX P w) outer P w H s Q E) s
structure DefT (P : Program) (w : World) (K : PySem.W.Frag) (mg : Str → Option Value) (base : Heap) (T : List (Addr × Str)) (j : Nat) (x : Str) (sp : DSp) : Prop where
  ex : ∃ f fd ps, mg x = some (.ref f) ∧ PySem.W.keepIn K (.ref f) = true ∧ Binds K fd ps [] ∧ FnT P w K mg base T j f fd ps sp
section
variable {c : Cf} {e : Expr} {es : List Expr} {Q : D → Prop} {Δ : Dl} {pos : Pos}
theorem fnT_run {X : Cx} {T : List (Addr × Str)} {j : Nat} {f : Addr} {fd : FuncData} {ps : List Str} {sp : DSp} {pins : List (Addr × Obj)} {σ : L2.St} {H1 : Hp} {s1 : Shared} {us : List Value} {vs : List V} {Q1 : VK} {E1 : XK} (FF : FnT X.prog X.w X.K X.mg X.base T j f fd ps sp) (gd : X.A.guards = some []) (rm : Room j X.A) (bd : Binds X.K fd ps [])
    (pa : Passes (L2.CX X.prog X.w) X E1) (J : Inv X pins σ H1 s1) (rr : Vals vs us) (hsp : liftT X.K T sp vs H1 Q1 E1) : wpAny (model X.prog X.w) X.A (call (.ref f) us) (EP X pins σ Q1) X.xe s1 := by
  have hl : us.length = ps.length := by
    obtain ⟨_, ds, _, _, _, _, r, h, _⟩ := hsp
    rw [← rr.length, r.length, FF.len _ _ _ h]
  have hb := bd s1 us J.kIn (by rw [List.append_nil]; exact hl)
  rw [List.append_nil] at hb
  refine wpAny_call (codeAny_mono (FF.go X.A X.stack s1 H1 ⟨us, []⟩ us vs Q1 E1 gd rm J.env0 hb rr hsp) fun end_ s2 hq => ?_)
  match end_, hq with
  | .error y, hq => exact pa pins σ H1 s1 y s2 J hq
  | .ok (.ret u), hq => exact J.after hq
  | .ok .next, hq => exact False.elim hq
  | .ok .brk, hq => exact False.elim hq
  | .ok .cont, hq => exact False.elim hq
theorem wo_callT {x : Str} {p : Pos} {j : Nat} {sp : DSp} {T : List (Addr × Str)} {me : Option (Addr × Addr × Str)} (F : DefT c.P c.w c.K c.mg c.base T j x sp) (hl : c.lam = some ⟨T, me⟩) (hj : j ≤ c.k) (hg : Glo c x) (h : WA c (e :: es) (fun ds => sp ds Q c.W) Δ) (hs : (e :: es).any isStar = false := by rfl)
    (hdb : (x == ("__debug__" : Str)) = false := by decide) (hh : c.hot = none := by rfl) : WO c (.Call (.Name x p) (e :: es) [] pos) Q Δ := fun X H0 Z0 hX σ H Z hS pins s I => by
  rw [List.any_cons, Bool.or_eq_false_iff] at hs
  obtain ⟨f, fd, ps, hm, hk, hb, FF⟩ := F.ex
  obtain ⟨⟨gd, _⟩, tz0, _⟩ := hX.lm _ hl
  have FF' : FnT X.prog X.w X.K X.mg X.base T j f fd ps sp := by rw [hX.P, hX.w, hX.K, hX.mg, hX.base]; exact FF
  refine wpAny_Call_Name_kw (ld_glob (u := .ref f) I (hX.gl hg) (by rw [hX.mg]; exact hm) ?_ hdb)
  refine PySem.W.callWith_K (h₀ := X.base) I.ok.mod.kin (by rw [hX.K]; exact hk) (thn (h X H0 Z0 hX σ H Z hS pos pins s I) fun us s1 ⟨vs, H1, I1, rv, Z1, ds, s1', r1, q1⟩ => ⟨I1.kIn, ?_⟩) (star1 hs.1) (star0 hs.2)
  refine fnT_run FF' gd ((hX.room hh).mono hj) (by rw [hX.K]; exact hb) hX.passes I1 rv ?_
  exact ⟨Z1, ds, Q, c.W, s1'.ok, (tz0.step hS.stp).step s1', by rw [hX.K]; exact r1, q1, fun d q v H' Z' st rr => oPost.mono hS.ok s1' ⟨Z', d, st, by rw [← hX.K]; exact rr, q⟩, fun x w cls d H' Z' st rx => ⟨Z', x, (hS.stp.trans s1').trans st, by rw [← hX.K]; exact rx, w⟩⟩
theorem we_callT {x : Str} {p : Pos} {j : Nat} {sp : DSp} {T : List (Addr × Str)} {me : Option (Addr × Addr × Str)} (F : DefT c.P c.w c.K c.mg c.base T j x sp) (hl : c.lam = some ⟨T, me⟩) (hj : j ≤ c.k) (hg : Glo c x) (h : WA c (e :: es) (fun ds => sp ds (fun d => Q d.frz) c.W) Δ) (hs : (e :: es).any isStar = false := by rfl)
    (hdb : (x == ("__debug__" : Str)) = false := by decide) (hh : c.hot = none := by rfl) : WE c (.Call (.Name x p) (e :: es) [] pos) Q Δ := we_of_wo (wo_callT (hh := hh) F hl hj hg h hs hdb)
end
/-- the name of the lambdas of the def of the name qual -/
def lq (qual : Str) : Str := qual ++ ".<locals>." ++ "<lambda>"
/-- a def that makes lambdas: its code object is told -/
structure FunL (K : PySem.W.Frag) (x qual : Str) (st : Stmt) (f : Addr) (fd : FuncData) (cv : Value) : Prop where
  ex : ∃ (oc : Value) (od : Option Addr) (kV doc pm : Value) (an : Option Addr) (ct : Value) (osl : Array (Option Value)),
    fd = PySem.W.fnOf x qual (defArgs st) (defBody st) (defScope st) .none kV doc pm an cv ct ∧ K.lookup f = some ⟨oc, od, .func fd, osl⟩ ∧ PySem.W.codeIn K cv qual = true
section
variable {P : Program} {w : World} {K : PySem.W.Frag} {mg : Str → Option Value} {base : Heap}
theorem def_T0 (T : List (Addr × Str)) (me : Option (Addr × Addr × Str)) {x qual : Str} {st : Stmt} {f : Addr} {cv : Value} {fd : FuncData} {N ps : List Str} {k : Nat} {sp : DSp} (F : FunL K x qual st f fd cv) (hme : ∀ c0 P0 q, me = some (c0, P0, q) → cv = .ref c0 ∧ lq qual = q ∧ LamX.TabB base mg c0 P0 ∧ (P0, q) ∈ T) (S : FnScope N ps (defScope st)) (len : ∀ ds Q E, sp ds Q E → ds.length = ps.length)
    (h : ∀ ds Q E, sp ds Q E → WB ⟨P, w, K, mg, base, N, defScope st, k, E, fun _ => true, none, some ⟨T, me⟩⟩ (defBody st) ⟨fun _ => Q .non, fun d _ => Q d, fun _ => False, fun _ => False⟩ (startD N ds)) : FnT P w K mg base T (k + 1) f fd ps sp := by
  obtain ⟨oc, od, kV, doc, pm, an, ct, osl, rfl, lk, hcd⟩ := F.ex
  refine ⟨len, fun A outer s H args us vs Q E gd hr e0 hb r hsp => ?_⟩
  obtain ⟨Z, ds, Q0, E0, ok, tz, rd, hs, kq, ke⟩ := hsp
  refine LamX.run_ofS (N := N) lk hcd S hr e0 hb r (by rw [rd.length, len _ _ _ hs]) fun hr' => ⟨_, pss_we, ?_⟩
  have hu : (A.deeper (envOfC qual (defScope st) s.heap.objs.size f cv)).units + 100 < cLine := by have := hr'.un; omega
  have tk : Takes (cxOf (L2.CX P w) P w K mg base N qual (defScope st) f cv A outer s H E) (fun cls d _ H => E cls d H) := takes_of rfl rfl rfl rfl
  have hX : CtxS ⟨P, w, K, mg, base, N, defScope st, k, E0, fun _ => true, none, some ⟨T, me⟩⟩ H Z (cxOf (L2.CX P w) P w K mg base N qual (defScope st) f cv A outer s H E) :=
    { P := rfl, w := rfl, K := rfl, mg := rfl, base := rfl, N := rfl, sc := rfl, calm := fun _ => rfl, su := fun _ _ _ z => (nomatch z), lm := fun L e => by cases e; exact ⟨⟨gd, hu⟩, tz, fun c1 P1 q1 z => by obtain ⟨a1, a2, a3, a4⟩ := hme c1 P1 q1 z; subst a1; subst a2; exact ⟨rfl, rfl, a3, a4⟩⟩, room := fun _ => hr', nd := S.nd, fn := fun _ _ _ => .inl rfl,
      tk := tk.imp fun cls d σ H' ⟨Z', y, st', rx, hw⟩ => ke y hw cls d H' Z' st' rx, own := passes_of rfl }
  intro pins s' I
  refine thn (h ds Q0 E0 hs _ H Z hX (L2.start N vs) H Z (slots_start ok rd) pins s' I) fun fl s2 q => sp_mono q (fun σ' H' ⟨Z', Δ', _, hS, q⟩ => ?_) (fun v H' ⟨Z', d, σ', Δ', hS, rr, q⟩ => kq d q v H' Z' hS.stp rr) (fun _ _ ⟨_, _, _, _, q⟩ => q.elim) fun _ _ ⟨_, _, _, _, q⟩ => q.elim
  exact kq .non q .non H' Z' hS.stp (.inl .non)
theorem funL_of {x qual : Str} {st : Stmt} {f : Addr} {fd : FuncData} (F : Fun K x qual st f fd) : ∃ cv, FunL K x qual st f fd cv := by
  obtain ⟨oc, od, kV, doc, pm, an, cdv, ct, osl, e, lk, hcd⟩ := F.ex
  exact ⟨cdv, ⟨oc, od, kV, doc, pm, an, ct, osl, e, lk, hcd⟩⟩
/-- a def that calls such defs -/
theorem def_okT (T : List (Addr × Str)) {x qual : Str} {st : Stmt} {f : Addr} {fd : FuncData} {N ps : List Str} {k : Nat} {sp : DSp} (F : Fun K x qual st f fd) (S : FnScope N ps (defScope st)) (len : ∀ ds Q E, sp ds Q E → ds.length = ps.length)
    (h : ∀ ds Q E, sp ds Q E → WB ⟨P, w, K, mg, base, N, defScope st, k, E, fun _ => true, none, some ⟨T, none⟩⟩ (defBody st) ⟨fun _ => Q .non, fun d _ => Q d, fun _ => False, fun _ => False⟩ (startD N ds)) : FnT P w K mg base T (k + 1) f fd ps sp := by
  obtain ⟨cv, G⟩ := funL_of F
  exact def_T0 T none G (fun _ _ _ z => nomatch z) S len h
/-- a def that makes lambdas -/
theorem def_okL (T : List (Addr × Str)) {x qual : Str} {st : Stmt} {f c0 P0 : Addr} {fd : FuncData} {N ps : List Str} {k : Nat} {sp : DSp} (F : FunL K x qual st f fd (.ref c0)) (TB : LamX.TabB base mg c0 P0) (hm : (P0, lq qual) ∈ T) (S : FnScope N ps (defScope st)) (len : ∀ ds Q E, sp ds Q E → ds.length = ps.length)
    (h : ∀ ds Q E, sp ds Q E → WB ⟨P, w, K, mg, base, N, defScope st, k, E, fun _ => true, none, some ⟨T, some (c0, P0, lq qual)⟩⟩ (defBody st) ⟨fun _ => Q .non, fun d _ => Q d, fun _ => False, fun _ => False⟩ (startD N ds)) : FnT P w K mg base T (k + 1) f fd ps sp :=
  def_T0 T _ F (fun c1 P1 q1 z => by cases z; exact ⟨rfl, rfl, TB, hm⟩) S len h
end
end DL
end
section
set_option Elab.async false
set_option linter.all false
set_option maxRecDepth 100000
set_option maxHeartbeats 4000000
/-! DL21: repr of data. -/
namespace DL
open PySem PySem.Spec PyProof.Rows L2
section
variable {prog : Program} {w : World}
theorem repr_reads {A : Around} {E : Value → Shared → Prop} {s : Shared} {Q : Value → Shared → Prop} (hg : A.guards = some []) : ∀ {v : Value} {d : PyData} {as : List Addr}, Reads s.heap v d as → d.showable = true → d.hasDict = false → A.units + 1 + d.depth < cLine → d.shown.length ≤ sizeLine →
    (∀ h' u tk, (∀ b o, s.heap.get? b = some o → h'.get? b = some o) → Q (.str d.shown u) { s with heap := h', toks := tk }) → wpAny (model prog w) A (call (.builtin "repr") [v]) Q E s
  | _, _, _, .none, _, _, _, _, q => by
    simp only [PyData.shown] at q
    exact P.repr_of_none (q s.heap _ _ fun _ _ e => e)
  | _, _, _, .bool b, _, _, _, _, q => by
    simp only [PyData.shown] at q
    exact P.repr_of_bool (q s.heap _ _ fun _ _ e => e)
  | _, _, _, .int i t, hs, _, _, _, q => by
    simp only [PyData.shown] at q
    exact P.repr_of_int (by simpa [PyData.showable] using hs) (q s.heap _ _ fun _ _ e => e)
  | _, _, _, .str x t, _, _, _, hz, q => by
    simp only [PyData.shown] at q
    exact P.repr_of_str (q s.heap _ _ fun _ _ e => e) (by simpa only [PyData.shown] using hz)
  | _, _, _, .tuple (a := a) (xs := xs) h1 h2 h3 h4, hs, hn, hu, hz, q => by
    have hz1 : (tupleText (PyData.shownAll xs)).length ≤ sizeLine := by simpa only [PyData.shown] using hz
    obtain ⟨bs, hb, hk⟩ := ReprAllK.of_readsAll (prog := prog) (w := w) h4 (by simpa [PyData.showable] using hs) (fun hx => by rw [show (PyData.tuple xs).hasDict = PyData.hasDictAll xs from by simp only [PyData.hasDict]] at hn; rw [hn] at hx; cases hx) (fun t ht => Nat.le_trans (tupleText_mem_le ht) hz1)
    have r0 : Reads s.heap (.ref a) (.tuple xs) _ := .tuple h1 h2 h3 h4
    have away : a ∉ bs := not_mem_of_deeper r0 (by simp only [PyData.depth]; omega) hb
    simp only [PyData.depth] at hu
    simp only [PyData.shown] at q
    exact call_repr_slot (by omega) ⟨_, h1, h2⟩ F.slot_tuple_repr (call_tuple_reprK (A := A.in1) h1 h2 h3 away hk hg (fun b _ => Clear.nil b) (by show A.units + 1 + _ < cLine; omega) (fun _ _ e => e) (fun h' u tk hk' => ⟨_, _, rfl, q h' u tk hk'⟩) hz1)
  | _, _, _, .list (a := a) (vs := vs) (xs := xs) h1 h2 h3 h4, hs, hn, hu, hz, q => by
    have hz1 : (listText (PyData.shownAll xs)).length ≤ sizeLine := by simpa only [PyData.shown] using hz
    obtain ⟨bs, hb, hk⟩ := ReprAllK.of_readsAll (prog := prog) (w := w) h4 (by simpa [PyData.showable] using hs) (fun hx => by rw [show (PyData.list xs).hasDict = PyData.hasDictAll xs from by simp only [PyData.hasDict]] at hn; rw [hn] at hx; cases hx) (fun t ht => Nat.le_trans (listText_mem_le ht) hz1)
    have r0 : Reads s.heap (.ref a) (.list xs) _ := .list h1 h2 h3 h4
    have away : a ∉ bs := not_mem_of_deeper r0 (by simp only [PyData.depth]; omega) hb
    simp only [PyData.depth] at hu
    simp only [PyData.shown] at q
    obtain ⟨l⟩ := vs
    cases l with
    | nil =>
      have h5 : ReadsAll s.heap [] xs _ := h4
      cases h5
      simp only [PyData.shownAll, listText_nil] at q
      exact call_repr_slot (by omega) ⟨_, h1, h2⟩ F.slot_list_repr.toG (call_list_repr_empty ⟨_, h1, h2⟩ h1 h3 ⟨_, _, rfl, q s.heap _ _ fun _ _ e => e⟩)
    | cons x l =>
      exact call_repr_slot (by omega) ⟨_, h1, h2⟩ F.slot_list_repr.toG (call_list_reprK (A := A.in1) h1 h2 h3 away (by simpa using hk.length_eq) (fun i y e => hk.item i y (by simpa using e)) hg (fun b _ => Clear.nil b) (by show A.units + 1 + _ < cLine; omega) (fun _ _ e => e) (fun h' u tk hk' => ⟨_, _, rfl, q h' u tk hk'⟩) hz1)
  | _, _, _, .dict _ _ _ _ _, _, hn, _, _, _ => by
    simp only [PyData.hasDict] at hn
    cases hn
end
theorem call_reprD {X : Cx} (hg : X.A.guards = some []) (hu : X.A.units + 100 < cLine) : CallR X (.builtin "repr") (fun xs H Q => ∃ x d, xs = [x] ∧ Dp X.K H x d ∧ d.showable = true ∧ d.hasDict = false ∧ d.depth ≤ 64 ∧ d.shown.length ≤ sizeLine ∧ Q (.str d.shown) H) := by
  intro pins s σ H xs us Q I r ⟨x, d, e, hd, h1, h2, h3, h4, q⟩
  subst e
  cases r with
  | cons r1 r2 =>
    cases r2
    obtain ⟨as, rd⟩ := Dp.reads I d x _ hd r1
    exact repr_reads hg rd h1 h2 (by omega) h4 fun h' u tk kp => ⟨.str d.shown, H, I.kept kp, ⟨_, rfl⟩, q⟩
/-- what may be shown: pure, no longer than n signs -/
structure Sd (n m : Nat) (d : D) : Prop where
  pu : d.pure = true
  sw : d.py.showable = true
  nd : d.py.hasDict = false
  ln : d.py.shown.length ≤ n
  de : d.py.depth ≤ m
section
variable {c : Cf} {Q : D → Prop}
theorem vc_repr {x : D} {n m : Nat} {L : Lm} (h : Sd n m x) (hl : c.lam = some L) (q : Q (.str x.py.shown)) (hn : n ≤ 1000000 := by decide) (hm : m ≤ 64 := by decide) : VC c (.builtin "repr") [x] Q := fun X H0 Z0 hX H Z vs ok r => by
  obtain ⟨⟨gd, un⟩, _⟩ := hX.lm L hl
  obtain ⟨v, rfl, r1⟩ := r.one
  exact ⟨_, call_reprD gd un, v, x.py, rfl, by rw [hX.K]; exact dp_of ok x h.pu r1, h.sw, h.nd, Nat.le_trans h.de hm, by rw [sizeLine_eq]; exact Nat.le_trans h.ln (by omega), opost ok .str q⟩
end
theorem Sd.non {m : Nat} : Sd 4 m .non := ⟨rfl, by simp only [D.py, PyData.showable], by simp only [D.py, PyData.hasDict], by simp only [D.py, PyData.shown]; decide +kernel, by simp only [D.py, PyData.depth]; exact Nat.zero_le _⟩
theorem Sd.bl {m : Nat} {b : Bool} : Sd 5 m (.bl b) := ⟨rfl, by simp only [D.py, PyData.showable], by simp only [D.py, PyData.hasDict], by simp only [D.py, PyData.shown]; cases b <;> decide +kernel, by simp only [D.py, PyData.depth]; exact Nat.zero_le _⟩
theorem log2_small {i : Int} (h : i.natAbs < 10 ^ 12) : i.natAbs.log2 < 1920 := by
  by_cases z : i.natAbs = 0
  · rw [z]; decide
  · have := (Nat.log2_lt z (k := 40)).mpr (by omega)
    omega
theorem Sd.int {m : Nat} {i : Int} (h : i.natAbs < 10 ^ 12) : Sd 13 m (.int i) := ⟨rfl, by simp only [D.py, PyData.showable]; exact decide_eq_true (log2_small h), by simp only [D.py, PyData.hasDict], PyData.shown_int_le h, by simp only [D.py, PyData.depth]; exact Nat.zero_le _⟩
theorem Sd.str {m : Nat} {x : Str} (h : ∀ c ∈ x.cps.toList, c < 16 ^ 8) : Sd (10 * x.length + 2) m (.str x) := ⟨rfl, by simp only [D.py, PyData.showable], by simp only [D.py, PyData.hasDict], by simp only [D.py, PyData.shown]; exact StrLaws.reprText_len x h, by simp only [D.py, PyData.depth]; exact Nat.zero_le _⟩
theorem Sd.mono {n n' m m' : Nat} {d : D} (h : Sd n m d) (a : n ≤ n') (b : m ≤ m') : Sd n' m' d := ⟨h.pu, h.sw, h.nd, Nat.le_trans h.ln a, Nat.le_trans h.de b⟩
theorem sds {n m : Nat} : ∀ {l : List D}, (∀ d ∈ l, Sd n m d) → pures l = true ∧ PyData.showableAll (pys l) = true ∧ PyData.hasDictAll (pys l) = false ∧ piled (PyData.shownAll (pys l)) ≤ (n + 2) * l.length ∧ PyData.depthAll (pys l) ≤ m
  | [], _ => ⟨rfl, by simp only [pys, PyData.showableAll], by simp only [pys, PyData.hasDictAll], by simp only [pys, PyData.shownAll]; exact Nat.zero_le _, by simp only [pys, PyData.depthAll]; exact Nat.zero_le _⟩
  | d :: l, h => by
    obtain ⟨a, b, c, e, f⟩ := sds (l := l) fun d hd => h d (List.mem_cons_of_mem _ hd)
    have k := h d List.mem_cons_self
    refine ⟨?_, ?_, ?_, ?_, ?_⟩
    · show (d.pure && pures l) = true; rw [k.pu, a]; rfl
    · simp only [pys, PyData.showableAll, k.sw, b, Bool.and_self]
    · simp only [pys, PyData.hasDictAll, k.nd, c, Bool.or_self]
    · simp only [pys, PyData.shownAll]
      rw [piled_cons]
      have := k.ln
      rw [List.length_cons, Nat.mul_succ]
      omega
    · simp only [pys, PyData.depthAll]; exact Nat.max_le.mpr ⟨k.de, f⟩
theorem Sd.tup {n m : Nat} {l : List D} (h : ∀ d ∈ l, Sd n m d) : Sd ((n + 2) * l.length + 2) (m + 1) (.tup l) := by
  obtain ⟨a, b, c, e, f⟩ := sds h
  refine ⟨a, by simp only [D.py, PyData.showable]; exact b, by simp only [D.py, PyData.hasDict]; exact c, ?_, by simp only [D.py, PyData.depth]; omega⟩
  simp only [D.py, PyData.shown]
  exact Nat.le_trans (fmt_text _) (by omega)
end DL
end
section
set_option Elab.async false
set_option linter.all false
set_option maxRecDepth 100000
set_option maxHeartbeats 4000000
/-! DL22: the end of a law that makes lambdas or shows things. -/
namespace DL
open PySem PySem.Spec PyProof.Rows L2
def tab0 : Obj := { cls := .none, data := .fields #[] }
/-- what is tracked at the start: the tables of codes, the script where K does not know it -/
def atStart (tb : List Addr) (a : Addr) (scr : Option HO) : Hp := fun b => if b ∈ tb then some (.tbl #[]) else if b = a then scr else none
theorem atStart_tab {tb : List Addr} {a b : Addr} {scr : Option HO} (h : b ∈ tb) : atStart tb a scr b = some (.tbl #[]) := if_pos h
theorem atStart_scr {tb : List Addr} {a : Addr} {scr : Option HO} (h : a ∉ tb) : atStart tb a scr a = scr := by unfold atStart; rw [if_neg h, if_pos rfl]
theorem atStart_cases {tb : List Addr} {a b : Addr} {scr : Option HO} {u : HO} (h : atStart tb a scr b = some u) : (b ∈ tb ∧ u = .tbl #[]) ∨ (b ∉ tb ∧ b = a ∧ scr = some u) := by
  by_cases hb : b ∈ tb
  · rw [atStart_tab hb] at h; cases h; exact .inl ⟨hb, rfl⟩
  · by_cases ha : b = a
    · subst ha; rw [atStart_scr hb] at h; exact .inr ⟨hb, rfl, h⟩
    · unfold atStart at h; rw [if_neg hb, if_neg ha] at h; cases h
/-- the marks at the start -/
def zStart (T : List (Addr × Str)) (a : Addr) (scr : Option HO) : Sh := fun b => match T.lookup b with
  | some q => some (tabM q)
  | none => if b = a then scr.map fz else none
theorem lookup_mem {P : Addr} {q : Str} : ∀ {T : List (Addr × Str)}, T.lookup P = some q → (P, q) ∈ T
  | [], h => by simp [List.lookup] at h
  | (P', q') :: T, h => by
    rw [List.lookup_cons] at h
    cases e : (P == P') with
    | true =>
      rw [e] at h
      have e2 : P = P' := beq_iff_eq.mp e
      cases h; subst e2; exact List.mem_cons_self
    | false => rw [e] at h; exact List.mem_cons_of_mem _ (lookup_mem h)
theorem lookup_some {T : List (Addr × Str)} {P : Addr} {q : Str} (u : ∀ p ∈ T, ∀ p' ∈ T, p.1 = p'.1 → p.2 = p'.2) (h : (P, q) ∈ T) : T.lookup P = some q := by
  cases e : T.lookup P with
  | some q' =>
    have := u _ h _ (lookup_mem e) rfl
    have e2 : q = q' := this
    rw [e2]
  | none =>
    have := List.lookup_eq_none_iff.mp e _ h
    simp at this
/-- what the law's def is known to promise -/
structure TopT (l : PySem.W.OpenLaw) (w : World) (K : PySem.W.Frag) (k n : Nat) (x : Str) (mg : Str → Option Value) (fa : Addr) (h : Heap) : Prop where
  ex : ∃ (fd : FuncData) (cs : List (Addr × Addr × Str)) (sp : DSp), (∀ p ∈ cs, h.get? p.2.1 = some tab0 ∧ K.lookup p.2.1 = none ∧ PySem.W.codeHdIn K p.1 p.2.1 = true) ∧ (∀ p ∈ cs, ∀ p' ∈ cs, p.2.1 = p'.2.1 → p.2.2 = p'.2.2) ∧
    (∀ (s : Shared) (u : Value), BindsTo s fd ⟨[u], []⟩ [(x, u)]) ∧ (∀ ns : List Int, ns.length ≤ n → sp [.scr ns] (fun d => d = .bl true) fun _ => False) ∧
    ∀ base : Heap, K.In base → base.Ns mainGlobals mg → (∀ p ∈ cs, LamX.TabB base mg p.1 p.2.1) → FnT l.prog w K mg base (cs.map (·.2)) k fa fd [x] sp
section
variable {l : PySem.W.OpenLaw} {w : World} {K : PySem.W.Frag} {k n : Nat} {x : Str} {mg mb : Str → Option Value} {fa a : Addr} {s : Shared} {vs : List Value} {ns : List Int}
theorem startT (K : PySem.W.Frag) {cs : List (Addr × Addr × Str)} (uq : ∀ p ∈ cs, ∀ p' ∈ cs, p.2.1 = p'.2.1 → p.2.2 = p'.2.2) {scr : Option HO} (hscr : scr = none ∨ ∃ o, scr = some (.frz o (.lst (ns.map V.int)))) (aT : a ∉ cs.map fun p => p.2.1)
    (rk : scr = none → Rp K (zStart (cs.map (·.2)) a scr) (.ref a) (.scr ns)) {sp : DSp} (hsp : sp [.scr ns] (fun d => d = .bl true) fun _ => False) : liftT K (cs.map (·.2)) sp [.ref a] (atStart (cs.map fun p => p.2.1) a scr) (fun v _ => v = .bl true) fun _ _ _ => False := by
  have uT : ∀ p ∈ cs.map (·.2), ∀ p' ∈ cs.map (·.2), p.1 = p'.1 → p.2 = p'.2 := fun p hp p' hp' e => by
    obtain ⟨c, hc, rfl⟩ := List.mem_map.mp hp
    obtain ⟨c', hc', rfl⟩ := List.mem_map.mp hp'
    exact uq c hc c' hc' e
  have inT : ∀ {P : Addr} {q : Str}, (P, q) ∈ cs.map (·.2) → P ∈ cs.map fun p => p.2.1 := fun {P q} h => by
    obtain ⟨c, hc, e⟩ := List.mem_map.mp h
    exact List.mem_map.mpr ⟨c, hc, by rw [e]⟩
  have zT : ∀ {P : Addr} {q : Str}, (P, q) ∈ cs.map (·.2) → zStart (cs.map (·.2)) a scr P = some (tabM q) := fun {P q} h => by
    unfold zStart; rw [lookup_some uT h]
  have zc : ∀ {b : Addr} {φ : HO → Prop}, zStart (cs.map (·.2)) a scr b = some φ → (∃ q, (b, q) ∈ cs.map (·.2) ∧ φ = tabM q) ∨ (b = a ∧ b ∉ cs.map (fun p => p.2.1) ∧ ∃ o, scr = some o ∧ φ = fz o) := fun {b φ} h => by
    unfold zStart at h
    cases e : (cs.map (·.2)).lookup b with
    | some q => rw [e] at h; cases h; exact .inl ⟨q, lookup_mem e, rfl⟩
    | none =>
      rw [e] at h
      by_cases hb : b = a
      · subst hb
        have h : (if b = b then scr.map fz else none) = some φ := h
        rw [if_pos rfl] at h
        cases he : scr with
        | none => rw [he] at h; cases h
        | some o => rw [he] at h; cases h; exact .inr ⟨rfl, aT, o, rfl, rfl⟩
      · have h : (if b = a then scr.map fz else none) = some φ := h
        rw [if_neg hb] at h; cases h
  have ok : OkZ (atStart (cs.map fun p => p.2.1) a scr) (zStart (cs.map (·.2)) a scr) := fun b φ h => by
    rcases zc h with ⟨q, hm, rfl⟩ | ⟨rfl, hb, o, e, rfl⟩
    · exact ⟨_, atStart_tab (inT hm), tabM_tbl _⟩
    · exact ⟨o, by rw [atStart_scr hb]; exact e, rfl⟩
  have nt : NoT (zStart (cs.map (·.2)) a scr) := fun b φ h => by
    rcases zc h with ⟨q, _, e⟩ | ⟨_, _, o, e, e2⟩
    · exact .inl ⟨q, e⟩
    · subst e2
      rcases hscr with z | ⟨o', z⟩
      · rw [z] at e; cases e
      · rw [z] at e; cases e; exact .inr (.fz fun ps z => nomatch z)
  refine ⟨zStart (cs.map (·.2)) a scr, [.scr ns], fun d => d = .bl true, fun _ => False, ok, fun _ => ⟨fun p hp => ⟨nt, zT hp, #[], atStart_tab (inT hp), True.intro, fun pos cv hc => ?_⟩, fun P q h => ?_⟩, .cons ?_ .nil, hsp, fun d e v H' Z' st r => ?_, fun _ z => z.elim⟩
  · have z : codeAmong pos [] = some cv := hc
    simp [codeAmong] at z
  · rcases zc h with ⟨q', hm, e⟩ | ⟨_, _, o, e, e2⟩
    · rw [tabM_inj e]; exact hm
    · have k : fz o (.tbl #[]) := by rw [← e2]; exact tabM_tbl #[]
      have k : HO.tbl #[] = o := k
      subst k
      rcases hscr with z | ⟨o', z⟩
      · rw [z] at e; cases e
      · rw [z] at e; cases e
  · rcases hscr with z | ⟨o, z⟩
    · exact rk z
    · refine .scrF (o := o) ?_
      unfold zStart
      have hno : (cs.map (·.2)).lookup a = none := by
        cases e : (cs.map (·.2)).lookup a with
        | none => rfl
        | some q => exact absurd (inT (lookup_mem e)) aT
      rw [hno]
      show (if a = a then scr.map fz else none) = _
      rw [if_pos rfl, z]; rfl
  · subst e
    rcases r with r | ⟨_, _, _, _, _, _, r⟩
    · cases r; rfl
    · cases r
theorem topT_go (KX : K.In s.heap) (g : s.heap.Ns mainGlobals mg) (bI : s.heap.Ns builtinsNs mb) (bI2 : ∀ x : Str, x ≠ "__name__" → mb x = bootBuiltins x) (nl : s.heap.NoLimit) (ge : s.gens = #[])
    (bm : ∃ (m : Addr) (ob : Obj), mg "__builtins__" = some (.ref m) ∧ m ≠ builtinsNs ∧ s.heap.get? m = some ob ∧ ob.cls = .type "module" ∧ ob.dict = some builtinsNs ∧ ob.data = .plain)
    (ha : s.heap.get? a = some { cls := .type "list", data := .seq vs.toArray }) (hi : IntsAre vs ns) (hl : ns.length ≤ sizeLine) (hn : ns.length ≤ n) (rm : Room k callerA) (T : TopT l w K k n x mg fa s.heap) :
    codeAny (model l.prog w) callerA (.call (.ref fa) ⟨[.ref a], []⟩) (fun r s' => r = .ok (.ret (.bool true)) ∧ OldK s.heap s'.heap ∧ s'.os = s.os ∧ AllBare s'.gens) s := by
  obtain ⟨fd, cs, sp, tabs, uq, hb, hsp, F⟩ := T.ex
  have vi := vals_ints hi
  have isTab : ∀ {b : Addr}, b ∈ cs.map (fun p => p.2.1) → s.heap.get? b = some tab0 ∧ K.lookup b = none := fun {b} h => by
    obtain ⟨p, hp, rfl⟩ := List.mem_map.mp h
    exact ⟨(tabs p hp).1, (tabs p hp).2.1⟩
  have aT : a ∉ cs.map fun p => p.2.1 := fun z => by
    have e := ha.symm.trans (isTab z).1
    have e2 := congrArg Obj.data (Option.some.inj e)
    cases e2
  -- what is tracked; whether K knows the script
  obtain ⟨scr, hscr, hsK, rk⟩ : ∃ scr : Option HO, (scr = none ∨ ∃ o, scr = some (.frz o (.lst (ns.map V.int)))) ∧ ((∃ u, scr = some u) → K.lookup a = none ∧ scr = some (.frz { cls := .type "list", data := .seq vs.toArray } (.lst (ns.map V.int)))) ∧ (scr = none → ∀ Z, Rp K Z (.ref a) (.scr ns)) := by
    cases e : K.lookup a with
    | none => exact ⟨_, .inr ⟨_, rfl⟩, fun _ => ⟨rfl, rfl⟩, fun z => nomatch z⟩
    | some o =>
      have ho := ha.symm.trans (KX a o e)
      cases ho
      refine ⟨none, .inl rfl, fun ⟨_, z⟩ => (nomatch z), fun _ Z => .scrK ⟨_, vs.toArray, _, e, rfl, rfl, rfl, ?_, by simpa using vi⟩⟩
      have := hi.length
      rw [List.size_toArray]; omega
  let tb := cs.map fun p => p.2.1
  let H := atStart tb a scr
  have free : ∀ {b : Addr} {o : Obj}, s.heap.get? b = some o → (∀ q m, o.data ≠ .seq q m) → o.data ≠ .fields #[] → H b = none := fun {b o} e n1 n2 => by
    cases q : H b with
    | none => rfl
    | some u =>
      rcases atStart_cases q with ⟨hm, _⟩ | ⟨_, rfl, _⟩
      · have z := e.symm.trans (isTab hm).1
        cases z; exact absurd rfl n2
      · have z := e.symm.trans ha
        cases z; exact absurd rfl (n1 _ _)
  have kF : ∀ {b : Addr} {o : Obj}, K.lookup b = some o → H b = none := fun {b o} e => by
    cases q : H b with
    | none => rfl
    | some u =>
      rcases atStart_cases q with ⟨hm, _⟩ | ⟨_, rfl, z⟩
      · rw [(isTab hm).2] at e; cases e
      · rw [(hsK ⟨u, z⟩).1] at e; cases e
  have dct : ∀ {b : Addr} {m : Str → Option Value}, s.heap.Ns b m → (hidT s.heap H).Ns b m := fun {b m} ⟨o, es, ep, e, d, r⟩ => ⟨o, es, ep, hidT_get e (free e (fun q m z => by rw [d] at z; cases z) fun z => by rw [d] at z; cases z), d, r⟩
  have KB : K.In (hidT s.heap H) := fun b o e => hidT_get (KX b o e) (kF e)
  have md : L2.Mod K mg (hidT s.heap H) := ⟨KB, dct g, ⟨mb, dct bI, bI2⟩, let ⟨mc, h1, h2⟩ := nl; ⟨mc, dct h1, h2⟩⟩
  have TBs : ∀ p ∈ cs, LamX.TabB (hidT s.heap H) mg p.1 p.2.1 := fun p hp => by
    obtain ⟨t1, _, t3⟩ := tabs p hp
    obtain ⟨m, ob, b1, b2, b3, b4, b5, b6⟩ := bm
    refine NdefX.tabB_of_K KB t3 ⟨m, ob, b1, b2, fun q => ?_, fun q => ?_, hidT_get b3 (free b3 (fun q m z => by rw [b6] at z; cases z) fun z => by rw [b6] at z; cases z), b4, b5, b6⟩ fun z => ?_
    · obtain ⟨o, es, ep, e, hd, _⟩ := g
      rw [← q, b3] at e; cases e
      rw [b6] at hd; cases hd
    · rw [q, t1] at b3; cases b3; cases b6
    · obtain ⟨o, es, ep, e, hd, _⟩ := g
      rw [z, t1] at e; cases e; cases hd
  have hok : HOk l.prog w H s.heap := fun b u e => by
    rcases atStart_cases e with ⟨hm, rfl⟩ | ⟨_, rfl, z⟩
    · exact (isTab hm).1
    · obtain ⟨_, z2⟩ := hsK ⟨u, z⟩
      rw [z] at z2; cases z2
      refine ⟨ha, ?_, vs, _, vi, ha⟩
      rw [List.length_map]; omega
  have e0 : Env0 l.prog w K mg (hidT s.heap H) callerA [] s H := { frames := rfl, mod := md, bs := fun b o e => of_hidT e, bsz := Nat.le_of_eq (hidT_size _ _), funs := trivial, frf := fun b z => (nomatch z), hok := hok, bare := .of_eq ge }
  refine codeAny_mono ((F _ KB (dct g) TBs).go callerA [] s H ⟨[.ref a], []⟩ [.ref a] [.ref a] _ _ rfl rm e0 (hb s (.ref a)) (.cons rfl .nil) (startT K uq hscr aT (fun z => rk z _) (hsp ns hn))) fun r s' q => ?_
  match r, q with
  | .error y, q => obtain ⟨_, _, _, _, _, _, _, _, _, _, _, _, z⟩ := q; exact z.elim
  | .ok .next, q => exact False.elim q
  | .ok .brk, q => exact False.elim q
  | .ok .cont, q => exact False.elim q
  | .ok (.ret u), q =>
    obtain ⟨v, H', eo, eb, un, hok', rv, qv⟩ := q
    have qv : v = .bl true := qv
    subst qv
    have eu : u = Value.bool true := rv
    subst eu
    have grown : ∀ {b : Addr}, b ∈ tb → ∃ more : Array Value, s'.heap.get? b = some { cls := .none, data := .fields more } := fun {b} hm => by
      obtain ⟨more, z⟩ := un.tbls b #[] (atStart_tab hm)
      exact ⟨_, hok' b _ z⟩
    have same : ∀ {b : Addr} {o : Obj}, b ∉ tb → s.heap.get? b = some o → s'.heap.get? b = some o := fun {b o} hm e => by
      cases q : H b with
      | none => exact un.keep b o e q (fun z => nomatch z) fun z => nomatch z
      | some u =>
        rcases atStart_cases q with ⟨hm2, _⟩ | ⟨_, rfl, z⟩
        · exact absurd hm2 hm
        · obtain ⟨_, z2⟩ := hsK ⟨u, z⟩
          rw [z] at z2; cases z2
          obtain ⟨e2, _⟩ := hok' b _ (un.frzs b _ _ q)
          have := e.symm.trans ha
          cases this
          exact e2
    refine ⟨rfl, ⟨fun b o e => ?_, fun b o e => ?_⟩, eo, eb⟩
    · by_cases hm : b ∈ tb
      · obtain ⟨more, z⟩ := grown hm
        obtain ⟨p, hp, rfl⟩ := List.mem_map.mp hm
        obtain ⟨t1, _, t3⟩ := tabs p hp
        have e1 := e.symm.trans t1
        cases e1
        refine .inr (.inl ⟨((PySem.W.codeHd_of_K KX t3).tab t1).isCodeTable, rfl, #[], more, rfl, ?_⟩)
        rw [Array.empty_append]; exact z
      · exact .inl (same hm e)
    · by_cases hm : b ∈ tb
      · obtain ⟨more, z⟩ := grown hm
        exact ⟨_, z⟩
      · exact ⟨o, same hm e⟩
end
/-- the tables of the defs of the text are empty at the start -/
def Empt (q : Program) (K : PySem.W.Frag) (mg : Str → Option Value) (h : Heap) : Prop := ∀ (nm : Str) (f c P : Addr) (o : Obj) (fd : FuncData) (e : Value) (dd : Option Addr) (vs : Array Value) (sl : Array (Option Value)),
  ((recsOf q).any fun d => d.name == nm) = true → mg nm = some (.ref f) → K.lookup f = some o → o.data = .func fd → fd.code = .ref c → K.lookup c = some ⟨e, dd, .fields vs, sl⟩ → vs[11]? = some (.ref P) → h.get? P = some tab0
theorem walk_T {l : PySem.W.OpenLaw} {n k : Nat} {q : Program} {loose : List Str} {XP : (Str → Option Value) → Heap → Prop} {YP : World → Heap → Prop} {d : DefRec} {K : Params → PySem.W.Frag} {x : Str}
    (hn : l.most = some n) (hn2 : n ≤ sizeLine) (hdf : d.params.defaults = []) (rm : Room k callerA) (hY : ∀ (w : World) (h : Heap), YP w h → (K w.params).In h)
    (F : ∀ (w : World) (mg : Str → Option Value) (fa : Addr) (h : Heap), (K w.params).In h → h.Ns mainGlobals mg → mg d.name = some (.ref fa) → Empt q (K w.params) mg h → TopT l w (K w.params) k n x mg fa h) :
    PySem.W.WalkO q loose XP YP l.row.toRowW d [] (fun f vs => PySem.call f vs) := by
  refine Att.attach_callB hn hdf fun w s₀ s mg mb fa o pm cd doc a vs ns G Y ho hd hcd hm hobj hi hl hbits hg => ?_
  have KX := hY w _ Y
  have em : Empt q (K w.params) mg s.heap := fun nm f c P o1 fd1 e dd vs1 sl k0 k1 k2 k3 k4 k5 k6 => by
    obtain ⟨dr, hdr, en⟩ := List.any_eq_true.mp k0
    have en : dr.name = nm := beq_iff_eq.mp en
    obtain ⟨a', o', fd', c', P', h1, h2, h3, h4, h5, h6⟩ := G.T.tab dr hdr
    rw [en, k1] at h1
    cases h1
    have e2 := (KX _ _ k2).symm.trans h2
    cases e2
    have e3 := k3.symm.trans h3
    cases e3
    have e4 := k4.symm.trans h4
    cases e4
    obtain ⟨⟨oc, vc, t1, _, t3, t4⟩, emp⟩ := h6
    have e5 := (KX _ _ k5).symm.trans t1
    cases e5
    cases t3
    have e6 := k6.symm.trans t4
    cases e6
    exact emp
  exact topT_go KX G.T.g G.T.b G.T.builtins G.T.nolimit hg G.T.bmain hobj hi (Nat.le_trans hl hn2) hl rm (F w mg fa _ KX G.T.g hm em)
end DL
end
section
set_option Elab.async false
set_option linter.all false
set_option maxRecDepth 100000
set_option maxHeartbeats 4000000
/-! DL23: small rules. -/
namespace DL
open PySem PySem.Spec PyProof.Rows L2
def IsSeq (d : D) (l : List D) : Prop := d = .lst l ∨ d = .tup l
theorem IsSeq.own {d : D} {l : List D} (h : IsSeq d l) : d.own = false := by rcases h with rfl | rfl <;> rfl
section
variable {c : Cf} {e a b : Expr} {es : List Expr} {Q : D → Prop} {Δ : Dl} {pos : Pos}
theorem WI.imp {tg iter : Expr} {Q Q' : List D → Prop} (h : WI c tg iter Q Δ) (k : ∀ l, Q l → Q' l) : WI c tg iter Q' Δ := fun X H0 Z0 hX σ H Z hS =>
  (h X H0 Z0 hX σ H Z hS).mono fun J H' ⟨Z', items, s, y, q⟩ => ⟨Z', items, s, y, k _ q⟩
/-- over a name that holds a list or a tuple -/
theorem wi_seq (i : Nat) {tg : Expr} {x : Str} {d : D} {l : List D} {Q : List D → Prop} (hN : c.N[i]? = some x) (hv : Vis c.sc x) (hi : Δ[i]? = some (some d)) (hd : IsSeq d l) (q : Q l) (h1 : (x == ("__debug__" : Str)) = false := by decide) (h2 : (x == ("__classdict__" : Str)) = false := by decide) : WI c tg (.Name x pos) Q Δ := by
  rcases hd with rfl | rfl
  · exact wi_lst (we_var i hN hv hi rfl ⟨_, rfl, q⟩ h1 h2)
  · exact wi_tup (we_var i hN hv hi rfl ⟨_, rfl, q⟩ h1 h2)
theorem vc_tupS {d : D} {l : List D} (hd : IsSeq d l) (q : Q (.tup l)) : VC c (.type "tuple") [d] Q := by
  rcases hd with rfl | rfl
  · exact vc_tupL q
  · exact vc_tupT q
theorem Rps.three {K : PySem.W.Frag} {Z : Sh} {vs : List V} {d1 d2 d3 : D} (r : Rps K Z vs [d1, d2, d3]) : ∃ v1 v2 v3, vs = [v1, v2, v3] ∧ Rp K Z v1 d1 ∧ Rp K Z v2 d2 ∧ Rp K Z v3 d3 := by
  cases r with
  | cons r1 r =>
    obtain ⟨v, u, rfl, a, b⟩ := r.two
    exact ⟨_, v, u, rfl, r1, a, b⟩
/-- a, b, z = x, y, w, three locals -/
theorem ws_par3 {T : Te} {z : Expr} (i j l : Nat) {x y w : Str} {px py pw pt : Pos} {kt k2 pt2} (hi : c.N[i]? = some x) (hj : c.N[j]? = some y) (hl : c.N[l]? = some w) (hij : i ≠ j) (hil : i ≠ l) (hjl : j ≠ l) (hx : c.sc.names.lookup x = some .local) (hy : c.sc.names.lookup y = some .local) (hz : c.sc.names.lookup w = some .local)
    (h : WA c [a, b, z] (fun ds => ∃ d1 d2 d3, ds = [d1, d2, d3] ∧ T.nx (((Δ.set i (some d1)).set j (some d2)).set l (some d3))) Δ)
    (hw : ∀ env : Env, env.scope = c.sc → swappedStores [.Tuple [.Name x px, .Name y py, .Name w pw] kt pt] (.Tuple [a, b, z] k2 pt2) env = pure (some [x, y, w])) (hh : c.hot = none := by rfl) : WS c (.Assign [.Tuple [.Name x px, .Name y py, .Name w pw] kt pt] (.Tuple [a, b, z] k2 pt2) pos) T Δ := fun X H0 Z0 hX σ H Z hS =>
  Ws.of (ps_par3 (hX.calm hh) (by rw [hX.N]; exact hX.nd) (by rw [hX.N]; exact hi) (by rw [hX.N]; exact hj) (by rw [hX.N]; exact hl) hij hil hjl (by rw [hX.sc]; exact hx) (by rw [hX.sc]; exact hy) (by rw [hX.sc]; exact hz) pa_we (hw _ hX.sc) rfl)
    ((h X H0 Z0 hX.toCtxOk σ H Z hS).mono fun vs H1 ⟨Z1, ds, s1, r1, d1, d2, d3, ed, q⟩ => by
      subst ed
      obtain ⟨v1, v2, v3, rfl, r1, r2, r3⟩ := r1.three
      exact ⟨v1, v2, v3, rfl, Z1, _, s1.le, (((hS.step s1).set i r1).set j r2).set l r3, q⟩)
end
end DL
end
section
set_option Elab.async false
set_option linter.all false
set_option maxRecDepth 100000
set_option maxHeartbeats 4000000
/-! DL24: the def that calls what it got, put together. -/
namespace DL
open PySem PySem.Spec PyProof.Rows L2
theorem caught_mk {P : Program} {w : World} {K : PySem.W.Frag} {mg : Str → Option Value} {base : Heap} {x a : Str} {st : Stmt} {f : Addr} {fd : FuncData} {Ng : List Str} {okX : XD → Prop} {told : XD → D} {none_ : D} (g : mg x = some (.ref f)) (F : Fun K x x st f fd) (b : Binds K fd [a] []) (S : FnScope Ng [a] (defScope st)) (h0 : Ng[0]? = some a) (hv : Vis (defScope st) a)
    (hG : ∀ (X : Cx) (q : Str) (cdv : Value), X.prog = P → X.w = w → X.K = K → X.mg = mg → X.base = base → X.A.guards = some [] → X.A.units + 200 < cLine → LamX.GivesTo X Ng x (defScope st) f cdv (defBody st) a q (TTd K okX told none_))
    (hd : (a == ("__debug__" : Str)) = false := by decide) (hc : (a == ("__classdict__" : Str)) = false := by decide) : Caught P w K mg base x okX told none_ := by
  obtain ⟨oc, od, kV, doc, pm, an, cdv, ct, osl, rfl, lk, hcd⟩ := F.ex
  exact ⟨f, a, _, _, _, _, _, _, _, _, _, _, _, _, Ng, g, F.kp, lk, hcd, b, S, h0, hv, ⟨hd, hc⟩, fun X q h1 h2 h3 h4 h5 h6 h7 => hG X q cdv h1 h2 h3 h4 h5 h6 h7⟩
/-- what is known of an own exception class, caught and asked for its fields -/
structure XK1 (K : PySem.W.Frag) (CS C : Addr) (fs : List Str) : Prop where
  ex : PySem.W.exmOne K (.ref C) (.ref CS) = some true
  ec : ExcC K C
  xf : XfC K C
  no : ∀ f ∈ fs, PySem.W.findIn K (.ref C) f = some none
section
variable {c : Cf} {Δ : Dl} {T : Te} {A : List Stmt} {pos pos2 p1 p2 p3 : Pos}
/-- if isinstance(e, C'): .. for the caught exception -/
theorem ws_ifE (i : Nat) {x y : Str} {a C dd C' : Addr} {ns : List Str} {l : List D} {k : Bool} (hm : c.mg "isinstance" = none) (hc : c.hot = some (a, C, dd)) (hN : c.N[i]? = some x) (hv : Vis c.sc x) (hi : Δ[i]? = some (some (.xc a C dd ns l))) (E : ExcC c.K C) (hg : Glo c y) (hy : c.mg y = some (.ref C')) (hk : PySem.W.kitOne c.K (.ref C) (.ref C') = some k)
    (h : if k = true then WB c A T Δ else T.nx Δ) (hgi : Glo c "isinstance") (hd : (x == ("__debug__" : Str)) = false := by decide) (hcd : (x == ("__classdict__" : Str)) = false := by decide) (hdy : (y == ("__debug__" : Str)) = false := by decide) :
    WS c (.If (.Call (.Name "isinstance" p1) [.Name x p2, .Name y p3] [] pos) A [] pos2) T Δ := by
  refine ws_if (wt_val (we_of_wo (wo_callB hgi hm boot_isinstance (wa_cons (we_var i hN hv hi rfl (wa_cons (we_cls hg hy (wa_nil (vc_isiE hc E hk ⟨_, rfl, ?_⟩)) hdy)) hd hcd)))))
  cases k with
  | true => rw [if_pos rfl] at h ⊢; exact h
  | false => rw [if_neg Bool.false_ne_true] at h ⊢; exact wb_nil h
end
end DL
end
section
set_option Elab.async false
set_option linter.all false
set_option maxRecDepth 100000
set_option maxHeartbeats 4000000
/-! DL25: own exception classes by a look at what the top has written. -/
namespace DL
open PySem PySem.Spec PyProof.Rows L2
def oexC (K : PySem.W.Frag) (C : Addr) : Bool := match K.lookup C with
  | some ⟨.type "type", _, .cls cd, sl⟩ => (match cd.mro, sl.toList with
    | .ref C' :: bm, [_, _, _, _, some (.builtin n), _] => C' == C && n == "ValueError.__new__" && !cd.hasDel && cd.hasDict && PySem.HandSPX.refsVE bm
    | _, _ => false)
  | _ => false
/-- all that is asked of an own exception class whose fields are fs -/
def xokB (K : PySem.W.Frag) (CS C : Addr) (fs : List Str) : Bool :=
  decide (PySem.W.findIn K (.ref C) "__setattr__" = some (some (.builtin "object.__setattr__"))) && (decide (PySem.W.subIn K (.ref C) (.type "BaseException") = some true) && (decide (PySem.W.typeIn K (.ref C) = some (.type "type")) && (PySem.W.keepIn K (.ref C) &&
  (decide (PySem.W.exmOne K (.ref C) (.ref CS) = some true) && (decide (PySem.W.findIn K (.ref C) "__getattribute__" = some (some (.builtin "BaseException.__getattribute__"))) && (decide (PySem.W.findIn K (.ref C) "__getattr__" = some none) && (PySem.W.hasDictIn K C &&
  (decide (PySem.W.findIn K (.ref C) "__class__" = some (some (.builtin "object.__class__"))) && (decide (PySem.W.specialIn K (.builtin "object.__class__") "__get__" = some (some (.builtin "getset_descriptor.__get__"))) && (decide (PySem.W.takesIn K (.builtin "object.__class__") = some true) && (decide (PySem.W.mroIn K C (.type "object") = some true) &&
  fs.all fun f => decide (PySem.W.findIn K (.ref C) f = some none))))))))))))
/-- which of these classes it is: it alone -/
def aloneB (K : PySem.W.Frag) (C : Addr) (cs : List Addr) : Bool := cs.all fun D => decide (PySem.W.kitOne K (.ref C) (.ref D) = some (C == D))
section
variable {K : PySem.W.Frag} {CS C : Addr} {fs : List Str}
theorem oexC_ok (h : oexC K C = true) : ∃ nm q N bs bm sn sub ab col dd k0 k1 k2 k3 k5, K.lookup C = some (excClassObj nm q C N bs bm true sn sub ab col dd k0 k1 k2 k3 k5 "ValueError.__new__") ∧ PySem.HandSPX.refsVE bm = true := by
  unfold oexC at h
  split at h
  · rename_i dd cd sl ho
    split at h
    · rename_i C' bm k0 k1 k2 k3 n k5 hm hs
      simp only [Bool.and_eq_true, beq_iff_eq, Bool.not_eq_true'] at h
      obtain ⟨⟨⟨⟨h1, h2⟩, h3⟩, h4⟩, h5⟩ := h
      obtain ⟨nm, bs, mro, N, qn, hd, sn, sub, ab, col, del_⟩ := cd
      obtain ⟨l⟩ := sl
      dsimp only at hm hs h3 h4
      subst h1 h2 h3 h4
      subst hm
      have hs : l = _ := hs
      subst hs
      exact ⟨_, _, _, _, _, _, _, _, _, _, _, _, _, _, _, ho, h5⟩
    · cases h
  · cases h
theorem oex_of (h1 : oexC K C = true) (h2 : xokB K CS C fs = true) : OexC K C ∧ XK1 K CS C fs := by
  unfold xokB at h2
  simp only [Bool.and_eq_true, decide_eq_true_eq, List.all_eq_true] at h2
  obtain ⟨a1, a2, a3, a4, a5, a6, a7, a8, a9, b1, b2, b3, b4⟩ := h2
  exact ⟨⟨oexC_ok h1, a1, a2, a3, a4⟩, ⟨a5, ⟨a6, a7, a2, a8, a9, b1, b2, b3⟩, ⟨a6, a7, a2, a8⟩, b4⟩⟩
theorem alone_of {cs : List Addr} (h : aloneB K C cs = true) {D : Addr} (hD : D ∈ cs) : PySem.W.kitOne K (.ref C) (.ref D) = some (C == D) := by
  unfold aloneB at h
  simp only [decide_eq_true_eq, List.all_eq_true] at h
  exact h D hD
/-- a def's code object, its table, known by a look -/
def lamB (K : PySem.W.Frag) (c P : Addr) : Bool := PySem.W.codeHdIn K c P && (match K.lookup P with
  | none => true
  | some _ => false) && (match K.lookup c with
  | some ⟨_, _, .fields vs, _⟩ => decide (vs[11]? = some (.ref P))
  | _ => false)
def tabA (K : PySem.W.Frag) (c : Addr) : Addr := match K.lookup c with
  | some ⟨_, _, Data.fields vs, _⟩ => (match (vs[11]? : Option Value) with
    | some (Value.ref P) => P
    | _ => 0)
  | _ => 0
theorem lam_of {c P : Addr} (h : lamB K c P = true) : PySem.W.codeHdIn K c P = true ∧ K.lookup P = none ∧ ∃ e dd vs sl, K.lookup c = some ⟨e, dd, .fields vs, sl⟩ ∧ vs[11]? = some (.ref P) := by
  unfold lamB at h
  simp only [Bool.and_eq_true] at h
  obtain ⟨⟨h1, h2⟩, h3⟩ := h
  refine ⟨h1, ?_, ?_⟩
  · cases q : K.lookup P with
    | none => rfl
    | some o => rw [q] at h2; cases h2
  · split at h3
    · rename_i e dd vs sl ho
      exact ⟨e, dd, vs, sl, ho, of_decide_eq_true h3⟩
    · cases h3
end
theorem def_mk {P : Program} {w : World} {K : PySem.W.Frag} {mg : Str → Option Value} {base : Heap} {j : Nat} {x qual : Str} {st : Stmt} {f : Addr} {fd : FuncData} {ps : List Str} {sp : DSp} (g : mg x = some (.ref f)) (F : Fun K x qual st f fd) (b : Binds K fd ps [])
    (ok : FnOk P w K mg base (L2.CX P w) j f fd ps (lift K sp)) : Def P w K mg base j x sp := ⟨f, fd, ps, g, F.kp, b, ok⟩
theorem defT_mk {P : Program} {w : World} {K : PySem.W.Frag} {mg : Str → Option Value} {base : Heap} {T : List (Addr × Str)} {j : Nat} {x : Str} {f : Addr} {fd : FuncData} {ps : List Str} {sp : DSp} (g : mg x = some (.ref f)) (kp : PySem.W.keepIn K (.ref f) = true) (b : Binds K fd ps [])
    (ok : FnT P w K mg base T j f fd ps sp) : DefT P w K mg base T j x sp := ⟨f, fd, ps, g, kp, b, ok⟩
theorem kit_self {K : PySem.W.Frag} {C : Addr} : PySem.W.kitOne K (.ref C) (.ref C) = some true := by
  unfold PySem.W.kitOne
  rw [if_pos (by simp)]
theorem funL_mk {K : PySem.W.Frag} {x qual : Str} {st : Stmt} {f c : Addr} {oc : Value} {od an : Option Addr} {osl : Array (Option Value)} {kV doc pm ct : Value} (l : K.lookup f = some ⟨oc, od, .func (PySem.W.fnOf x qual (defArgs st) (defBody st) (defScope st) .none kV doc pm an (.ref c) ct), osl⟩)
    (cc : PySem.W.codeIn K (.ref c) qual = true) : FunL K x qual st f (PySem.W.fnOf x qual (defArgs st) (defBody st) (defScope st) .none kV doc pm an (.ref c) ct) (.ref c) := ⟨oc, od, kV, doc, pm, an, ct, osl, rfl, l, cc⟩
/-- a law's end where all tables are those of the defs named -/
theorem topT_mk {l : PySem.W.OpenLaw} {w : World} {K : PySem.W.Frag} {k n : Nat} {x : Str} {mg : Str → Option Value} {fa : Addr} {h : Heap} {fd : FuncData} {sp : DSp} (cs : List (Addr × Addr × Str)) (ht : ∀ p ∈ cs, h.get? p.2.1 = some tab0 ∧ lamB K p.1 p.2.1 = true) (hu : (cs.map fun p => p.2.1).Nodup)
    (hb : ∀ (s : Shared) (u : Value), BindsTo s fd ⟨[u], []⟩ [(x, u)]) (hsp : ∀ ns : List Int, ns.length ≤ n → sp [.scr ns] (fun d => d = .bl true) fun _ => False)
    (F : ∀ base : Heap, K.In base → base.Ns mainGlobals mg → (∀ p ∈ cs, LamX.TabB base mg p.1 p.2.1) → FnT l.prog w K mg base (cs.map (·.2)) k fa fd [x] sp) : TopT l w K k n x mg fa h := by
  refine ⟨fd, cs, sp, fun p hp => ⟨(ht p hp).1, (lam_of (ht p hp).2).2.1, (lam_of (ht p hp).2).1⟩, fun p hp p' hp' e => ?_, hb, hsp, F⟩
  obtain ⟨i, hi, ei⟩ := List.getElem_of_mem hp
  obtain ⟨j, hj, ej⟩ := List.getElem_of_mem hp'
  have e1 : (cs.map fun p => p.2.1)[i]'(by rw [List.length_map]; exact hi) = p.2.1 := by rw [List.getElem_map, ei]
  have e2 : (cs.map fun p => p.2.1)[j]'(by rw [List.length_map]; exact hj) = p'.2.1 := by rw [List.getElem_map, ej]
  have hij : i = j := by
    refine Classical.byContradiction fun z => ?_
    have := (List.pairwise_iff_getElem.mp hu)
    rcases Nat.lt_or_gt_of_ne z with z | z
    · exact this i j (by rw [List.length_map]; exact hi) (by rw [List.length_map]; exact hj) z (by rw [e1, e2, e])
    · exact this j i (by rw [List.length_map]; exact hj) (by rw [List.length_map]; exact hi) z (by rw [e1, e2, e])
  subst hij
  rw [ei] at ej; rw [ej]
theorem tab_empty {q : Program} {K : PySem.W.Frag} {mg : Str → Option Value} {h : Heap} {nm : Str} {f c : Addr} {oc : Value} {od : Option Addr} {fd : FuncData} {osl : Array (Option Value)} (em : Empt q K mg h) (hr : ((recsOf q).any fun d => d.name == nm) = true) (g : mg nm = some (.ref f)) (l : K.lookup f = some ⟨oc, od, .func fd, osl⟩) (hc : fd.code = .ref c) (t : lamB K c (tabA K c) = true) :
    h.get? (tabA K c) = some tab0 := by
  obtain ⟨_, _, e, dd, vs, sl, lk, hv⟩ := lam_of t
  exact em nm f c _ _ fd e dd vs sl hr g l rfl hc lk hv
end DL
end
section
set_option Elab.async false
set_option linter.all false
set_option maxRecDepth 100000
set_option maxHeartbeats 4000000
/-! DL26: zip of a list and a tuple in any mix; gcd; abs; own == and !=; division by large numbers. -/
namespace DL
open PySem PySem.Spec PyProof.Rows L2
def SqK (k : Bool) (K : PySem.W.Frag) (H : Hp) (a : Addr) (xs : List V) : Prop := match k with
  | true => SqL K H a xs
  | false => SqT K H a xs
def itK (k : Bool) (h : Heap) (it a : Addr) (i : Nat) : Prop := match k with
  | true => h.IsListIter it a i
  | false => h.IsTupleIter it a i
def isK (k : Bool) (h : Heap) (a : Addr) (items : Array Value) : Prop := match k with
  | true => h.IsList a items
  | false => h.IsTuple a items
theorem drawsK {prog : Program} {w : World} {A : Around} (k : Bool) (hh : A.handled = none) (it a : Addr) (hne : a ≠ it) (items : Array Value) : Draws prog w A it [it, a] items.size (fun i v => items[i]? = some v) (fun i h => itK k h it a i ∧ isK k h a items) := by
  cases k with
  | true => exact Draws.list hh it a hne items
  | false => exact Draws.tuple hh it a hne items
theorem sqK_items {X : Cx} {pins : List (Addr × Obj)} {σ : L2.St} {H : Hp} {s : Shared} {a : Addr} {xs : List V} (k : Bool) (I : Inv X pins σ H s) (h : SqK k X.K H a xs) : ∃ its : List Value, Vals xs its ∧ isK k s.heap a its.toArray ∧ a < s.heap.objs.size := by
  cases k with
  | true =>
    obtain ⟨its, r, p, _⟩ := I.list h
    exact ⟨its, r, p.isList, p.lt⟩
  | false =>
    obtain ⟨its, r, p, _⟩ := I.tuple h
    exact ⟨its, r, p, by obtain ⟨_, q, _⟩ := p; exact Heap.lt_size q⟩
theorem sqK_inj {X : Cx} {pins : List (Addr × Obj)} {σ : L2.St} {H : Hp} {s : Shared} {a : Addr} {xs ys : List V} (k : Bool) (I : Inv X pins σ H s) (h : SqK k X.K H a xs) (h' : SqK k X.K H a ys) : xs = ys := by
  cases k with
  | true => exact I.list_inj h h'
  | false => exact I.tuple_inj h h'
theorem itK_obj {k : Bool} {h : Heap} {it a : Addr} {i : Nat} (st : itK k h it a i) : ∃ o, h.get? it = some o ∧ ∀ v, o.data ≠ .cell v := by
  cases k <;> (obtain ⟨o, e, _, d⟩ := st; exact ⟨o, e, fun v q => by rw [d] at q; cases q⟩)
theorem itK_at {k : Bool} {h h' : Heap} {it a : Addr} {i : Nat} (st : itK k h it a i) (e : ∀ o, h.get? it = some o → h'.get? it = some o) : itK k h' it a i := by
  cases k with
  | true => exact Heap.IsListIter.at st e
  | false => exact Heap.IsTupleIter.at st e
/-- what stands at a and b, item by item, in new pairs -/
def ItX (K : PySem.W.Frag) (k1 k2 : Bool) (n1 n2 : Nat) (a b : Addr) : It :=
  ⟨fun i H => ∃ (xs ys : List V) (x y : V), SqK k1 K H a xs ∧ SqK k2 K H b ys ∧ xs.length = n1 ∧ ys.length = n2 ∧ xs[i]? = some x ∧ ys[i]? = some y,
    fun i H v H' => ∃ T x y, v = .ref T ∧ H T = none ∧ H' = upd H T (.tup [x, y]) ∧ (∀ xs, SqK k1 K H a xs → xs[i]? = some x) ∧ ∀ ys, SqK k2 K H b ys → ys[i]? = some y,
    fun i H => ∃ xs ys : List V, SqK k1 K H a xs ∧ SqK k2 K H b ys ∧ xs.length = n1 ∧ ys.length = n2 ∧ (n1 ≤ i ∨ n2 ≤ i)⟩
theorem turn_zipX {P : Program} {w : World} {K : PySem.W.Frag} {elts : List Expr} {kk : Nat} {tpos : Pos} (k1 k2 : Bool) (n1 n2 : Nat) {a b z TI TO i1 i2 : Addr} (S : ZipSep2 z TI TO i1 i2 [i1, a] [i2, b]) (na : a ≠ i1) (nb : b ≠ i2) :
    Turn P w K (.Tuple elts kk tpos) (ItX K k1 k2 n1 n2 a b) [z, TI, TO, i1, i2] z (fun i h => IsZip h z TI TO .none ∧ IsTupOf2 h TI (.ref i1) (.ref i2) ∧ (∃ x y, IsTupOf2 h TO x y) ∧ itK k1 h i1 a i ∧ itK k2 h i2 b i ∧ i ≤ n1 ∧ i ≤ n2) where
  mem := by simp
  obj := fun i h st c hc => by
    obtain ⟨hz, hTI, ⟨x, y, hTO⟩, s1, s2, _⟩ := st
    obtain ⟨o1, e1, d1⟩ := itK_obj s1
    obtain ⟨o2, e2, d2⟩ := itK_obj s2
    simp only [List.mem_cons, List.not_mem_nil, or_false] at hc
    rcases hc with rfl | rfl | rfl | rfl | rfl
    · exact ⟨_, hz, fun v q => nomatch q⟩
    · exact ⟨_, hTI, fun v q => nomatch q⟩
    · exact ⟨_, hTO, fun v q => nomatch q⟩
    · exact ⟨o1, e1, d1⟩
    · exact ⟨o2, e2, d2⟩
  keep := fun i h h' st k => by
    obtain ⟨hz, hTI, ⟨x, y, hTO⟩, s1, s2, sl⟩ := st
    exact ⟨k z (by simp) _ hz, k TI (by simp) _ hTI, ⟨x, y, k TO (by simp) _ hTO⟩, itK_at s1 fun o => k i1 (by simp) o, itK_at s2 fun o => k i2 (by simp) o, sl⟩
  item := by
    intro X hP hw hK hc i pins s σ H E I hf st hg
    subst hP hw hK
    obtain ⟨hz, hTI, ⟨x0, y0, hTO⟩, s1, s2, _⟩ := st
    obtain ⟨xs, ys, x, y, qx, qy, m1, m2, ex, ey⟩ := hg
    obtain ⟨its, rv, p, _⟩ := sqK_items k1 I qx
    obtain ⟨its2, rv2, p2, _⟩ := sqK_items k2 I qy
    obtain ⟨u, hu, ru⟩ := rv.get ex
    obtain ⟨u2, hu2, ru2⟩ := rv2.get ey
    have lt1 : i < its.toArray.size := by rw [List.size_toArray]; exact (List.getElem?_eq_some_iff.mp hu).1
    have lt2 : i < its2.toArray.size := by rw [List.size_toArray]; exact (List.getElem?_eq_some_iff.mp hu2).1
    have zlt : z < s.heap.objs.size := Heap.lt_size hz
    refine wpAny_pyNext_zipD2_item S (drawsK (A := X.A.in1) k1 (I.ok.hd hc) i1 a na its.toArray) (drawsK (A := X.A.in1) k2 (I.ok.hd hc) i2 b nb its2.toArray) hz hTI hTO ⟨s1, p⟩ ⟨s2, p2⟩ lt1 lt2 fun x1 x2 h' tk P1 P2 z' TO' st1 st2 hT hsz hk => ?_
    have e1 : x1 = u := by
      have q : its[i]? = some x1 := by simpa using P1
      rw [hu] at q; cases q; rfl
    have e2 : x2 = u2 := by
      have q : its2[i]? = some x2 := by simpa using P2
      rw [hu2] at q; cases q; rfl
    subst e1 e2
    refine ⟨_, rfl, wpAny_letOwnedTupleGo_zip (s := { s with heap := h', toks := tk }) z' fun h'' z'' sb => ?_⟩
    have hT2 : h''.get? s.heap.objs.size = some { cls := .type "tuple", data := .seq #[x1, x2] } := (sb.2 _ (Nat.ne_of_gt zlt)).trans hT
    have new : ObjOk X.prog X.w (upd H s.heap.objs.size (.tup [x, y])) h'' s.heap.objs.size (.tup [x, y]) := by
      refine ⟨?_, [x1, x2], .cons ru (.cons ru2 .nil), ⟨_, hT2, rfl, _, rfl⟩⟩
      show 2 ≤ sizeLine
      decide
    have I1 : Inv X pins σ (upd H s.heap.objs.size (.tup [x, y])) { s with heap := h'', toks := tk } :=
      I.turnedNew (t' := tk) (ch := [z, TI, TO, i1, i2]) (fun c o nc q => (sb.2 c fun r => nc (by simp [r])).trans (hk c o (fun r => nc (by simp [r])) (fun r => nc (by simp [r])) (fun r => nc (by simp [r])) (fun r => nc (by simp [r])) q)) hf (Nat.le_refl _) new
    have stay : ∀ {c o}, c ≠ z → c ≠ TO → c ≠ i1 → c ≠ i2 → s.heap.get? c = some o → h''.get? c = some o := fun {c o} n1 n2 n3 n4 q => (sb.2 c n1).trans (hk c o n1 n2 n3 n4 q)
    refine ⟨.ref s.heap.objs.size, _, I1, rfl, ⟨_, x, y, rfl, I.hok.fresh (Nat.le_refl _), rfl, fun l hl => ?_, fun l hl => ?_⟩, ⟨z'', ?_, ⟨x1, x2, ?_⟩, ?_, ?_, ?_, ?_⟩, fun c hcm => ?_⟩
    · rw [sqK_inj k1 I hl qx]; exact ex
    · rw [sqK_inj k2 I hl qy]; exact ey
    · exact stay S.TIz S.TITO S.TIi1 S.TIi2 hTI
    · exact (sb.2 _ S.TOz).trans TO'
    · exact itK_at st1.1 fun o q => (sb.2 _ (Ne.symm S.zi1)).trans q
    · exact itK_at st2.1 fun o q => (sb.2 _ (Ne.symm S.zi2)).trans q
    · have := (List.getElem?_eq_some_iff.mp ex).1; omega
    · have := (List.getElem?_eq_some_iff.mp ey).1; omega
    · have hlt : c < s.heap.objs.size := by
        obtain ⟨o1, g1, _⟩ := itK_obj s1
        obtain ⟨o2, g2, _⟩ := itK_obj s2
        simp only [List.mem_cons, List.not_mem_nil, or_false] at hcm
        rcases hcm with rfl | rfl | rfl | rfl | rfl
        · exact zlt
        · exact Heap.lt_size hTI
        · exact Heap.lt_size hTO
        · exact Heap.lt_size g1
        · exact Heap.lt_size g2
      rw [upd_ne (Nat.ne_of_lt hlt)]
      exact (hf c hcm).1
  done := by
    intro X hP hw hK hc i pins s σ H E I hf st hg
    subst hP hw hK
    obtain ⟨hz, hTI, ⟨x0, y0, hTO⟩, s1, s2, l1, l2⟩ := st
    obtain ⟨xs, ys, qx, qy, m1, m2, hend⟩ := hg
    obtain ⟨its, rv, p, _⟩ := sqK_items k1 I qx
    obtain ⟨its2, rv2, p2, _⟩ := sqK_items k2 I qy
    have e1 := rv.length
    have e2 := rv2.length
    refine wpAny_pyNext_zipD2_end S (drawsK (A := X.A.in1) k1 (I.ok.hd hc) i1 a na its.toArray) (drawsK (A := X.A.in1) k2 (I.ok.hd hc) i2 b nb its2.toArray) hz hTI hTO ⟨s1, p⟩ ⟨s2, p2⟩ (by rw [List.size_toArray]; omega) (by rw [List.size_toArray]; omega) (by rw [List.size_toArray, List.size_toArray]; omega) fun h' tk hk => ⟨rfl, ?_⟩
    exact I.turnedL (t' := tk) (ch := [z, TI, TO, i1, i2]) (fun c o nc q => hk c o (fun r => nc (by simp [r])) (fun r => nc (by simp [r])) (fun r => nc (by simp [r])) (fun r => nc (by simp [r])) q) hf
  self := fun A i s Q E st h => wpAny_pyIter_zip st.1 h
def iZipX (K : PySem.W.Frag) (ta : TA) : TI := fun σ H R => ta σ H fun vs H1 => ∃ k1 k2 a b xs ys, vs = [.ref a, .ref b] ∧ SqK k1 K H1 a xs ∧ SqK k2 K H1 b ys ∧ R (ItX K k1 k2 xs.length ys.length a b) H1
theorem begK (k : Bool) (a : Addr) (items : Array Value) : ∃ o, Begins (.ref a) o (fun h => isK k h a items) ∧ ∀ h it, h.get? it = some o → itK k h it a 0 := by
  cases k with
  | true => exact ⟨_, begins_list a items, fun h it e => ⟨_, e, rfl, rfl⟩⟩
  | false => exact ⟨_, begins_tuple a items, fun h it e => ⟨_, e, rfl, rfl⟩⟩
theorem pi_zipX {X : Cx} {e e2 : Expr} {ta : TA} {p pos tpos : Pos} {elts : List Expr} {kk : Nat} (hg : Gl X "zip") (hm : X.mg "zip" = none) (ha : PA X [e, e2] ta)
    (hs : starEach [e, e2] X.env = (false, eval e X.env) :: starEach [e2] X.env := by rfl) (hpl : (backTo pos (starEach [e2] X.env)).any (·.1) = false := by rfl) :
    PI X (.Tuple elts kk tpos) (.Call (.Name "zip" p) [e, e2] [] pos) (iZipX X.K ta) := by
  refine ⟨fun pins s σ H R I h => ?_⟩
  refine Call_ (ld_blt I hg hm PyProof.Rows.boot_zip (PyProof.Rows.callWith_type1 (thn (ha.run pos pins s σ H _ I h) fun us s1 ⟨vs, H1, I1, r1, k1, k2, a, b, xs, ys, ex, qx, qy, q⟩ => ?_) hs hpl))
  subst ex
  cases r1 with
  | cons r rr =>
    cases rr with
    | cons r' rr =>
      cases rr; cases r; cases r'
      obtain ⟨its, rv, pp, la⟩ := sqK_items k1 I1 qx
      obtain ⟨its2, rv2, pp2, lb⟩ := sqK_items k2 I1 qy
      obtain ⟨o1, B1, b1⟩ := begK k1 a its.toArray
      obtain ⟨o2, B2, b2⟩ := begK k2 b its2.toArray
      refine zip_begins2 B1 B2 pp pp2 fun h' hz hTI hTO g1 g2 hsz hk => wpAny_pyIter_zip hz ?_
      have I2 : Inv X pins σ H1 { s1 with heap := h' } := I1.kept (t' := s1.toks) hk
      have S : ZipSep2 (s1.heap.objs.size + 4) (s1.heap.objs.size + 2) (s1.heap.objs.size + 3) s1.heap.objs.size (s1.heap.objs.size + 1) [s1.heap.objs.size, a] [s1.heap.objs.size + 1, b] := zip_sep2 (fun c hc => by rw [List.mem_singleton] at hc; subst hc; exact la) (fun c hc => by rw [List.mem_singleton] at hc; subst hc; exact lb)
      refine ⟨s1.heap.objs.size + 4, [s1.heap.objs.size + 4, s1.heap.objs.size + 2, s1.heap.objs.size + 3, s1.heap.objs.size, s1.heap.objs.size + 1], _, _, H1, rfl, I2, turn_zipX k1 k2 xs.length ys.length S (Nat.ne_of_lt la) (Nat.ne_of_lt (Nat.lt_succ_of_lt lb)), ⟨hz, hTI, ⟨_, _, hTO⟩, b1 _ _ g1, b2 _ _ g2, Nat.zero_le _, Nat.zero_le _⟩, fun c hc => ?_, q⟩
      have hle : s1.heap.objs.size ≤ c := by
        simp only [List.mem_cons, List.not_mem_nil, or_false] at hc
        rcases hc with rfl | rfl | rfl | rfl | rfl <;> omega
      exact I1.fpOk hle (I1.hok.fresh hle)
section
variable {c : Cf} {e a b : Expr} {es : List Expr} {Q : D → Prop} {Δ : Dl} {pos : Pos}
theorem seqK {K : PySem.W.Frag} {Z : Sh} {H : Hp} {v : V} {x : D} {xs : List D} (ok : OkZ H Z) (hx : IsSeq x xs) (r : Rp K Z v x) : ∃ k p vs, v = .ref p ∧ Rps K Z vs xs ∧ ∀ H' Z', Le Z Z' → OkZ H' Z' → SqK k K H' p vs := by
  rcases hx with rfl | rfl
  · obtain ⟨p, vs, rfl, hp, zp, rr⟩ := r.lst_inv ok
    exact ⟨true, p, vs, rfl, rr, fun H' Z' le ok' => .of (fz_at le ok' zp)⟩
  · obtain ⟨p, vs, rfl, hp, zp, rr⟩ := r.tup_inv ok
    exact ⟨false, p, vs, rfl, rr, fun H' Z' le ok' => .of (fz_at le ok' zp)⟩
/-- zip of two sequences, lists or tuples -/
theorem wi_zipX {ts : List Expr} {kk : Nat} {tpos p : Pos} {Q : List D → Prop} (hg : Glo c "zip") (hm : c.mg "zip" = none)
    (h : WE c a (fun x => WE c b (fun y => ∃ xs ys, IsSeq x xs ∧ IsSeq y ys ∧ Q (pairs xs ys)) Δ) Δ) (hs : isStar a = false := by rfl) (hs2 : isStar b = false := by rfl) :
    WI c (.Tuple ts kk tpos) (.Call (.Name "zip" p) [a, b] [] pos) Q Δ := fun X H0 Z0 hX σ H Z hS => by
  refine Wi.of (pi_zipX (hX.gl hg) (by rw [hX.mg]; exact hm) (pa_cons pe_we (pa_cons pe_we pa_nil (star1 hs2)) (star1 hs)) (star1 hs) (by rw [star1 hs2]; rfl)) ?_
  refine (h X H0 Z0 hX σ H Z hS).mono fun v H1 ⟨Z1, x, s1, r1, q1⟩ => ?_
  refine (q1 X H0 Z0 hX σ H1 Z1 (hS.step s1)).mono fun u H2 ⟨Z2, y, s2, r2, xs, ys, hx, hy, q⟩ => ?_
  obtain ⟨k1, pa, vs, rfl, rr1, q1⟩ := seqK s2.ok hx (r1.le s2.le)
  obtain ⟨k2, pb, ws, rfl, rr2, q2⟩ := seqK s2.ok hy r2
  rw [hX.K]
  refine ⟨k1, k2, pa, pb, vs, ws, rfl, q1 H2 Z2 (.refl _) s2.ok, q2 H2 Z2 (.refl _) s2.ok, Z2, pairs xs ys, s1.trans s2, fun H' Z' le ok i => ⟨fun d hd => ?_, fun hn => ?_⟩, q⟩
  · obtain ⟨x, y, hx, hy, rfl⟩ := pairs_get hd
    obtain ⟨vx, ex, rx⟩ := rr1.get hx
    obtain ⟨vy, ey, ry⟩ := rr2.get hy
    refine ⟨⟨vs, ws, vx, vy, q1 H' Z' le ok, q2 H' Z' le ok, rfl, rfl, ex, ey⟩, fun v H'' ⟨T, x', y', ev, hT, eH, g1, g2⟩ => ?_⟩
    subst ev eH
    have e1 := g1 vs (q1 H' Z' le ok)
    have e2 := g2 ws (q2 H' Z' le ok)
    rw [ex] at e1; rw [ey] at e2
    cases e1; cases e2
    have s3 : Stp H' Z' (upd H' T (.tup [vx, vy])) (shr Z' T (fz (.tup [vx, vy]))) := .newS ok hT rfl
    exact ⟨_, s3, .tup shr_same (.cons ((rx.le le).le s3.le) (.cons ((ry.le le).le s3.le) .nil))⟩
  · refine ⟨vs, ws, q1 H' Z' le ok, q2 H' Z' le ok, rfl, rfl, ?_⟩
    rw [rr1.length, rr2.length]; exact pairs_none hn
/-- gcd(a, b), from math -/
theorem we_gcd {x : Str} {p : Pos} (hg : Glo c x) (hm : c.mg x = some (.builtin "math.gcd")) (h : WE c a (fun d => WE c b (fun e => ∃ i j : Int, d = .int i ∧ e = .int j ∧ Q (.int ((Int.gcd i j : Nat) : Int))) Δ) Δ) (hs : isStar a = false := by rfl) (hs2 : isStar b = false := by rfl) (hdb : (x == ("__debug__" : Str)) = false := by decide) :
    WE c (.Call (.Name x p) [a, b] [] pos) Q Δ := fun X H0 Z0 hX σ H Z hS => by
  refine We.of (pe_callBfun cr_gcd (hX.gl hg) (by rw [hX.mg]; exact hm) (pa_cons pe_we (pa_cons pe_we pa_nil (star1 hs2)) (star1 hs)) hdb (star1 hs) (by rw [star1 hs2]; rfl)) ?_
  refine (h X H0 Z0 hX σ H Z hS).mono fun v H1 ⟨Z1, x, s1, r1, q1⟩ => ?_
  refine (q1 X H0 Z0 hX σ H1 Z1 (hS.step s1)).mono fun u H2 ⟨Z2, y, s2, r2, i, j, ex, ey, q⟩ => ?_
  subst ex ey
  cases r1; cases r2
  exact ⟨i, j, rfl, Z2, _, s1.trans s2, .int, q⟩
theorem vc_abs {i : Int} (q : Q (.int (if i < 0 then -i else i))) : VC c (.builtin "abs") [.int i] Q := fun X _ _ hX H Z vs ok r => by
  obtain ⟨v, rfl, r1⟩ := r.one
  cases r1
  exact ⟨_, call_abs, i, rfl, opost ok .int q⟩
theorem log2_200 {j : Int} (h0 : 0 < j) (h : j < 2 ^ 200) : j.natAbs.log2 < 9000 := by
  have h2 : j.natAbs < 2 ^ 200 := by
    have e : ((j.natAbs : Nat) : Int) < ((2 ^ 200 : Nat) : Int) := by
      rw [Int.natAbs_of_nonneg (Int.le_of_lt h0)]
      have : ((2 ^ 200 : Nat) : Int) = 2 ^ 200 := by norm_cast
      rw [this]; exact h
    exact_mod_cast e
  have := (Nat.log2_lt (n := j.natAbs) (k := 200) (by omega)).mpr h2
  omega
/-- // by a large number -/
theorem vo_fdivW {i j : Int} (h0 : 0 < j) (h : j < 2 ^ 200) (q : Q (.int (i / j))) : VO c (binaryOp .FloorDiv) (.int i) (.int j) Q := vo_i (C := CDivW) (g := fun i j => i / j) (fun _ => op_fdivW) ⟨h0, log2_200 h0 h⟩ q
/-- a method of the class at C, by its name -/
structure MetD (P : Program) (w : World) (K : PySem.W.Frag) (mg : Str → Option Value) (base : Heap) (j : Nat) (C : Addr) (nm : Str) (sp : DSp) : Prop where
  ex : ∃ f fd ps, PySem.W.findIn K (.ref C) nm = some (some (.ref f)) ∧ PySem.W.isFn K (.ref f) = true ∧ Binds K fd ps [] ∧ FnOk P w K mg base (L2.CX P w) j f fd ps (lift K sp)
/-- x == y, x != y: x an instance of a class whose def for it is known -/
theorem vo_own {op : CmpOp} {j : Nat} {C C' : Addr} {ns ns' : List Str} {l l' : List D} {sp : DSp} (M : MetD c.P c.w c.K c.mg c.base j C (cmpInfo op).2.1 sp) (hj : j ≤ c.k) (hn : PySem.W.notFirst c.K C (.ref C') = true) (h : sp [.ins C ns l, .ins C' ns' l'] (fun d => (∃ k, d = .bl k) ∧ Q d) fun _ => False)
    (hop : ∀ a b, compareOp op a b = richCompare op a b := by intro _ _; rfl) (hh : c.hot = none := by rfl) : VO c (compareOp op) (.ins C ns l) (.ins C' ns' l') Q := fun X H0 Z0 hX H Z v u ok r1 r2 => by
  obtain ⟨f, fd, ps, hs, hf, hb, FF⟩ := M.ex
  obtain ⟨p, dx, vs, rfl, hp, _, _⟩ := r1.ins_inv ok
  obtain ⟨q, dy, ws, rfl, hq, _, _⟩ := r2.ins_inv ok
  refine ⟨fun y z H' Q' => y = .ref p ∧ z = .ref q ∧ H' = H ∧ ∀ v H2, oPost c.K H Z Q v H2 → Q' v H2, ?_, rfl, rfl, rfl, fun _ _ h => h⟩
  intro pins s σ H' y z vv uu Q' I ry rz ⟨e1, e2, e3, k⟩
  subst e1 e2 e3
  cases (show vv = Value.ref p from ry)
  cases (show uu = Value.ref q from rz)
  have rm : Room j X.A := (hX.room hh).mono hj
  obtain ⟨mA, J, _⟩ := ins_get I.hok hp
  obtain ⟨mB, J', _⟩ := ins_get I.hok hq
  obtain ⟨od, J, _⟩ := J.look
  obtain ⟨od', J', _⟩ := J'.look
  obtain ⟨m, hF⟩ := I.fr
  rw [hop]
  refine PySem.W.cmp_K (op := op) (tb := .ref C') rm.units0 hF I.ok.mod.kin J J'.type (by rw [hX.K]; exact hn) (by rw [hX.K]; exact hs) (by rw [hX.K]; exact hf) ?_
  have hsp : lift c.K sp [.ref p, .ref q] H' (fun v H2 => (∃ k, v = .bl k) ∧ oPost c.K H' Z Q v H2) (fun _ _ _ => False) := by
    refine ⟨Z, _, _, _, ok, .cons r1 (.cons r2 .nil), h, fun d ⟨⟨k, ed⟩, qd⟩ v H2 Z2 st rr => ?_, fun _ z => z.elim⟩
    subst ed
    rcases rr with rr | ⟨_, _, _, _, _, _, rr⟩
    · cases rr; exact ⟨⟨k, rfl⟩, Z2, _, st, .inl .bl, qd⟩
    · cases rr
  have FX := hX.fnOk FF
  have hl := FX.len _ _ _ _ hsp
  have hbb := hb s [.ref p, .ref q] (by have := I.kIn; rw [hX.K] at this; exact this) (by simpa using hl)
  rw [List.append_nil] at hbb
  refine wpAny_call (codeAny_mono (FX.run X.A X.stack s H' ⟨[.ref p, .ref q], []⟩ [.ref p, .ref q] [.ref p, .ref q] _ _ rm I.env0 hbb (.cons rfl (.cons rfl .nil)) hsp) fun r s' hq' => ?_)
  match r, hq' with
  | .error y, hq' => obtain ⟨_, _, _, _, _, _, _, _, _, _, _, _, z⟩ := hq'; exact z.elim
  | .ok .next, hq' => exact False.elim hq'
  | .ok .brk, hq' => exact False.elim hq'
  | .ok .cont, hq' => exact False.elim hq'
  | .ok (.ret w), hq' =>
    obtain ⟨z, H2, I2, rz, ⟨kk, ek⟩, ez⟩ := I.after hq'
    subst ek
    cases rz
    exact ⟨.bl kk, H2, I2, rfl, k _ _ ez⟩
end
end DL
end
section
set_option Elab.async false
set_option linter.all false
set_option maxRecDepth 100000
set_option maxHeartbeats 4000000
/-! DL27: comprehensions of two clauses. -/
namespace DL
open PySem PySem.Spec PyProof.Rows L2
section
variable {c : Cf} {e a b : Expr} {es : List Expr} {Q : D → Prop} {Δ : Dl} {pos : Pos} {js : List Nat} {T : Te}
def Bi (X : Cx) (scope : Scope) (tg iter : Expr) : TI := fun σ H R => ∀ s H' C cl fp, Wi (X.blk s H' scope (compEnvC scope cl C X.env) fp) tg iter σ H R
theorem pi_b {X : Cx} {scope : Scope} {tg iter : Expr} (s : Shared) (H' : Hp) (C : Addr) (cl : List (Str × Addr)) (fp : List Addr) : PI (X.blk s H' scope (compEnvC scope cl C X.env) fp) tg iter (Bi X scope tg iter) := ⟨fun pins s' σ' H2 R I k => k s H' C cl fp pins s' I⟩
/-- two clauses: I over what the first gives, I1 over what the second gives behind it -/
def Lc2 (c : Cf) (elt tg iter tg1 iter1 : Expr) (ifs ifs1 : List Expr) (scope : Scope) (own : List (Str × Nat)) (vs1 : List Nat) (Q : D → Prop) (Δ : Dl) : Prop :=
  WI c tg iter (fun items => ∃ I : List D → List D → Prop, I [] [] ∧
      (∀ pre x post acc, items = pre ++ x :: post → I pre acc → WG (c.blk scope) (own.map (·.2)) tg x (fun Δ2 => WTs (c.blk scope) ifs (fun k => if k = true then
          WI (c.blk scope) tg1 iter1 (fun items1 => ∃ I1 : List D → List D → Prop, I1 [] acc ∧
            (∀ pre1 y post1 acc1, items1 = pre1 ++ y :: post1 → I1 pre1 acc1 → WG (c.blk scope) vs1 tg1 y (fun Δ3 => WTs (c.blk scope) ifs1 (fun k => if k = true then WE (c.blk scope) elt (fun z => acc1.length < sizeLine ∧ I1 (pre1 ++ [y]) (acc1 ++ [z])) Δ3 else I1 (pre1 ++ [y]) acc1) Δ3) (wipeD Δ2 vs1)) ∧
            ∀ acc1, I1 items1 acc1 → I (pre ++ [x]) acc1) Δ2
        else I (pre ++ [x]) acc) Δ2) (wipeD Δ (own.map (·.2)))) ∧
      ∀ acc, I items acc → Q (.ol acc)) Δ
theorem item_split {items : List D} {i : Nat} {x : D} (e : items[i]? = some x) : items = items.take i ++ x :: items.drop (i + 1) ∧ items.take (i + 1) = items.take i ++ [x] ∧ i < items.length := by
  have hlt : i < items.length := (List.getElem?_eq_some_iff.mp e).1
  have h2 := (List.getElem?_eq_some_iff.mp e).2
  exact ⟨by rw [← h2, ← List.drop_eq_getElem_cons hlt, List.take_append_drop], by rw [List.take_succ_eq_append_getElem hlt, h2], hlt⟩
/-- the list that is made, hidden, with what it holds -/
def Mk (K : PySem.W.Frag) (Dl : Addr) (H1 : Hp) (Z1 : Sh) (H' : Hp) (Z' : Sh) (vs : List V) (acc : List D) : Prop := Stp H1 Z1 H' Z' ∧ Z' Dl = none ∧ H' Dl = some (.lst vs) ∧ Rps K Z' vs acc
theorem Mk.step {K : PySem.W.Frag} {Dl : Addr} {H1 H' H2 : Hp} {Z1 Z' Z2 : Sh} {vs : List V} {acc : List D} (m : Mk K Dl H1 Z1 H' Z' vs acc) (s : Stp H' Z' H2 Z2) : Mk K Dl H1 Z1 H2 Z2 vs acc := by
  obtain ⟨st, zD, hD, rr⟩ := m
  have k := s.keep Dl _ hD zD ⟨fun ps e => (nomatch e), fun c q e => (nomatch (show _ = HO.ext _ from e))⟩
  exact ⟨st.trans s, k.2, k.1, rr.le s.le⟩
theorem Mk.snoc {K : PySem.W.Frag} {Dl : Addr} {H1 H' : Hp} {Z1 Z' : Sh} {vs : List V} {acc : List D} {w : V} {y : D} (m : Mk K Dl H1 Z1 H' Z' vs acc) (hD : H1 Dl = none) (r : Rp K Z' w y) : Mk K Dl H1 Z1 (upd H' Dl (.lst (vs ++ [w]))) Z' (vs ++ [w]) (acc ++ [y]) :=
  ⟨m.1.own (.of hD) m.2.1, m.2.1, upd_same, m.2.2.2.append (.cons r .nil)⟩
theorem upd_at {H : Hp} {a : Addr} {o : HO} (h : H a = some o) : upd H a o = H := by
  funext b
  by_cases e : b = a
  · subst e; rw [upd_same, h]
  · rw [upd_ne e]
theorem upd_upd {H : Hp} {a : Addr} {o o' : HO} : upd (upd H a o) a o' = upd H a o' := by
  funext b
  by_cases e : b = a
  · subst e; rw [upd_same, upd_same]
  · rw [upd_ne e, upd_ne e, upd_ne e]
/-- a thing that is hidden from the slots is laid into their base -/
theorem Slots.pin {K : PySem.W.Frag} {H0 : Hp} {Z0 : Sh} {σ : L2.St} {H : Hp} {Z : Sh} {Dl : Addr} {o : HO} (h : Slots K H0 Z0 σ H Z Δ) (nt : ∀ ps, o ≠ .tbl ps) (zD : Z Dl = none)
    (no : ∀ (i : Nat) (d : D) (l : Addr), Δ[i]? = some (some d) → d.own = true → σ[i]? = some (some (.ref l)) → l ≠ Dl) : Slots K (upd H0 Dl o) Z0 σ (upd H Dl o) Z Δ := by
  have z0 : Z0 Dl = none := by
    cases q : Z0 Dl with
    | none => rfl
    | some φ => rw [h.stp.le _ _ q] at zD; cases zD
  refine ⟨fun a φ q => ?_, ⟨h.stp.le, fun a φ q => ?_, fun a u e z n => ?_, fun P q t => ?_, h.stp.tb, fun a u e n => ?_⟩, h.len, fun i d e => ?_, h.sep⟩
  · have ha : a ≠ Dl := fun e => by rw [e, z0] at q; cases q
    rw [upd_ne ha]; exact h.ok0 a φ q
  · have ha : a ≠ Dl := fun e => by rw [e, zD] at q; cases q
    rw [upd_ne ha]; exact h.stp.ok a φ q
  · by_cases ha : a = Dl
    · subst ha; rw [upd_same] at e; cases e; exact ⟨upd_same, zD⟩
    · rw [upd_ne ha] at e ⊢; exact h.stp.keep a u e z n
  · have hP : P ≠ Dl := fun e => by have := t.2.1; rw [e, z0] at this; cases this
    exact (h.stp.tab P q (t.at_ (upd_ne hP).symm)).at_ (upd_ne hP)
  · by_cases ha : a = Dl
    · subst ha; exact ⟨o, upd_same, nt⟩
    · rw [upd_ne ha] at e ⊢; exact h.stp.stays a u e n
  · obtain ⟨v, e1, r⟩ := h.at_ i d e
    refine ⟨v, e1, ?_⟩
    rcases r with r | ⟨l, o', e2, h0, z, hl, r⟩
    · exact .inl r
    · subst e2
      have hl' : l ≠ Dl := no i d l e r.own e1
      exact .inr ⟨l, o', rfl, fun u q => h0 u (by rw [upd_ne hl'] at q; exact q), z, by rw [upd_ne hl']; exact hl, r⟩
theorem Slots.out {K : PySem.W.Frag} {H0 : Hp} {Z0 : Sh} {σ : L2.St} {H : Hp} {Z : Sh} {Dl : Addr} {o : HO} (h : Slots K (upd H0 Dl o) Z0 σ H Z Δ) (nt : ∀ ps, o ≠ .tbl ps) (i : Nat) (d : D) (l : Addr) (e : Δ[i]? = some (some d)) (ho : d.own = true) (el : σ[i]? = some (some (.ref l))) : l ≠ Dl := fun z => by
  obtain ⟨l', o', e1, h0, _⟩ := h.getO e ho
  rw [el] at e1; cases e1
  subst z
  obtain ⟨ps, w⟩ := h0 o upd_same
  exact nt ps w
theorem CtxOk.blkP {H0 Z0 X} (hX : CtxOk c H0 Z0 X) (hh : c.hot = none) {Dl : Addr} {o : HO} (z0 : Z0 Dl = none) {scope : Scope} (s : Shared) (H : Hp) (C : Addr) (cl : List (Str × Addr)) (fp : List Addr) : CtxOk (c.blk scope) (upd H0 Dl o) Z0 (X.blk s H scope (compEnvC scope cl C X.env) fp) :=
  let B := hX.blk hh (scope := scope) s H C cl fp
  { B with
    lm := fun L e => by
      obtain ⟨a1, a2, a3⟩ := B.lm L e
      refine ⟨a1, fun n => ⟨fun p hp => ?_, (a2 n).2⟩, a3⟩
      have t := (a2 n).1 p hp
      exact t.at_ (upd_ne fun e => by have := t.2.1; rw [e, z0] at this; cases this)
    tk := takes0.imp fun _ _ _ _ ⟨_, _, _, _, q⟩ => q.elim }
theorem lc2_run {elt tg iter tg1 iter1 : Expr} {ifs ifs1 : List Expr} {scope : Scope} {own : List (Str × Nat)} {vs1 : List Nat} (h : Lc2 c elt tg iter tg1 iter1 ifs ifs1 scope own vs1 Q Δ)
    (hh : c.hot = none) {X H0 Z0} (hX : CtxOk c H0 Z0 X) {σ : L2.St} {H : Hp} {Z : Sh} (hS : Slots c.K H0 Z0 σ H Z Δ) :
    tLc2 (Wi X tg iter) (Bg X scope tg) (Bt X scope ifs) (Bi X scope tg1 iter1) (Bg X scope tg1) (Bt X scope ifs1) (Be X scope elt) (own.map (·.2)) vs1 σ H (oPost c.K H Z Q) := by
  refine (h X H0 Z0 hX σ H Z hS).mono fun J H1 ⟨Z1, items, s1, yl, I, i0, turn, fin⟩ => fun Dl hD => ?_
  have nl : ∀ (vs : List V) (ps : Array Value), (HO.lst vs) ≠ .tbl ps := fun _ _ e => by cases e
  have hS1 := hS.step s1
  have no1 : ∀ (i : Nat) (d : D) (l : Addr), Δ[i]? = some (some d) → d.own = true → σ[i]? = some (some (.ref l)) → l ≠ Dl := fun i d l e ho el z => by
    obtain ⟨l', o', e1, _, _, hl, _⟩ := hS1.getO e ho
    rw [el] at e1; cases e1
    rw [z, hD] at hl; cases hl
  have z0 : Z0 Dl = none := by
    cases q : Z0 Dl with
    | none => rfl
    | some φ => have := hS1.stp.le _ _ q; rw [s1.ok.none hD] at this; cases this
  refine ⟨fun i m H' => m = items.length - i ∧ i ≤ items.length ∧ ∃ Z' vs acc, Mk c.K Dl H1 Z1 H' Z' vs acc ∧ I (items.take i) acc, ⟨items.length, by simp, Nat.zero_le _, Z1, [], [], ⟨.new s1.ok hD, s1.ok.none hD, upd_same, .nil⟩, i0⟩, ?_⟩
  rintro i m H' ⟨rfl, hi, Z', vs, acc, mk, ii⟩
  cases e : items[i]? with
  | none =>
    have hi' : i = items.length := by have := List.getElem?_eq_none_iff.mp e; omega
    subst hi'
    rw [List.take_length] at ii
    obtain ⟨st, zD, hD', rr⟩ := mk
    refine .inl ⟨(yl H' Z' st.le st.ok _).2 e, ?_⟩
    exact oPost.mono hS.ok s1 ⟨Z', .ol acc, st, .inr ⟨Dl, _, rfl, .of hD, zD, hD', .lst rr⟩, fin acc ii⟩
  | some x =>
    obtain ⟨go, yld⟩ := (yl H' Z' mk.1.le mk.1.ok i).1 x e
    obtain ⟨split, snoc, hlt⟩ := item_split e
    refine .inr ⟨go, fun H2 => ∃ Z' vs acc, Mk c.K Dl H1 Z1 H2 Z' vs acc ∧ I (items.take (i + 1)) acc, fun H2 q => ⟨items.length - (i + 1), by omega, rfl, hlt, q⟩, fun v H2 y => ?_⟩
    obtain ⟨Z2, s2, rx⟩ := yld v H2 y
    have hSb : Slots c.K (upd H0 Dl (.lst vs)) Z0 σ H' Z' Δ := by
      have := (hS1.step mk.1).pin (o := .lst vs) (nl vs) mk.2.1 no1
      rwa [upd_at mk.2.2.1] at this
    have hS2 := (hSb.step s2).wipe (own.map (·.2))
    have tn := turn (items.take i) x (items.drop (i + 1)) acc split ii
    intro s0 Hb C cl fp
    refine (tn _ _ Z0 (hX.blkP hh z0 s0 Hb C cl fp) _ H2 Z2 v hS2 rx).mono fun σ3 H3 ⟨Z3, Δ3, s3, hS3, ks, q3⟩ => ⟨?_, ?_⟩
    · have e1 := wipe_same (σ := wipe σ (own.map (·.2))) (τ := σ3) ks.1 ks.2
      rw [e1]
      exact wipe_same (wipe_length _ _) fun i hi => wipe_get hi
    intro s0 Hb C cl fp
    refine (wts_run q3 (hX.blkP hh z0 s0 Hb C cl fp) hS3).mono fun k H4 ⟨Z4, s4, q4⟩ => ?_
    have mk4 := mk.step ((s2.trans s3).trans s4)
    cases k with
    | false =>
      rw [if_neg Bool.false_ne_true] at q4 ⊢
      exact ⟨Z4, vs, acc, mk4, by rw [snoc]; exact q4⟩
    | true =>
      rw [if_pos rfl] at q4 ⊢
      intro s0 Hb C cl fp
      refine (q4 _ _ Z0 (hX.blkP hh z0 s0 Hb C cl fp) _ H4 Z4 (hS3.step s4)).mono fun J1 H5 ⟨Z5, items1, s5, yl1, I1, j0, turn1, fin1⟩ => ?_
      refine ⟨fun j m H' => m = items1.length - j ∧ j ≤ items1.length ∧ ∃ Z' ws acc1, Le Z5 Z' ∧ Mk c.K Dl H1 Z1 H' Z' ws acc1 ∧ Slots c.K (upd H0 Dl (.lst ws)) Z0 σ3 H' Z' Δ3 ∧ I1 (items1.take j) acc1,
        ⟨items1.length, by simp, Nat.zero_le _, Z5, vs, acc, Le.refl _, mk4.step s5, (hS3.step s4).step s5, j0⟩, ?_⟩
      rintro j m Hc ⟨rfl, hj, Zc, ws, acc1, lec, mkc, hSc, jj⟩
      cases e1 : items1[j]? with
      | none =>
        have hj' : j = items1.length := by have := List.getElem?_eq_none_iff.mp e1; omega
        subst hj'
        rw [List.take_length] at jj
        exact .inl ⟨(yl1 Hc Zc lec mkc.1.ok _).2 e1, Zc, ws, acc1, mkc, by rw [snoc]; exact fin1 acc1 jj⟩
      | some y1 =>
        obtain ⟨go1, yld1⟩ := (yl1 Hc Zc lec mkc.1.ok j).1 y1 e1
        obtain ⟨split1, snoc1, hlt1⟩ := item_split e1
        refine .inr ⟨go1, fun H2 => ∃ Z' ws acc1, Le Z5 Z' ∧ Mk c.K Dl H1 Z1 H2 Z' ws acc1 ∧ Slots c.K (upd H0 Dl (.lst ws)) Z0 σ3 H2 Z' Δ3 ∧ I1 (items1.take (j + 1)) acc1, fun H2 q => ⟨items1.length - (j + 1), by omega, rfl, hlt1, q⟩, fun v1 Hd y2 => ?_⟩
        obtain ⟨Zd, sd, ry⟩ := yld1 v1 Hd y2
        have tn1 := turn1 (items1.take j) y1 (items1.drop (j + 1)) acc1 split1 jj
        intro s0 Hb C cl fp
        refine (tn1 _ _ Z0 (hX.blkP hh z0 s0 Hb C cl fp) _ Hd Zd v1 ((hSc.step sd).wipe vs1) ry).mono fun σ6 H6 ⟨Z6, Δ6, s6, hS6, ks6, q6⟩ => ⟨?_, ?_⟩
        · have e2 := wipe_same (σ := wipe σ3 vs1) (τ := σ6) ks6.1 ks6.2
          rw [e2]
          exact wipe_same (wipe_length _ _) fun i hi => wipe_get hi
        intro s0 Hb C cl fp
        refine (wts_run q6 (hX.blkP hh z0 s0 Hb C cl fp) hS6).mono fun k H7 ⟨Z7, s7, q7⟩ => ?_
        have sdc := (sd.trans s6).trans s7
        cases k with
        | false =>
          rw [if_neg Bool.false_ne_true] at q7 ⊢
          exact ⟨Z7, ws, acc1, lec.trans sdc.le, mkc.step sdc, hSc.step sdc, by rw [snoc1]; exact q7⟩
        | true =>
          rw [if_pos rfl] at q7 ⊢
          intro s0 Hb C cl fp
          refine (q7 _ _ Z0 (hX.blkP hh z0 s0 Hb C cl fp) _ H7 Z7 (hS6.step s7)).mono fun w H8 ⟨Z8, z, s8, rz, hzl, q8⟩ => ?_
          have s18 := sdc.trans s8
          have mk8 := mkc.step s18
          refine ⟨ws, mk8.2.2.1, ?_, Z8, ws ++ [w], acc1 ++ [z], lec.trans s18.le, mk8.snoc hD rz, ?_, by rw [snoc1]; exact q8⟩
          · rw [mk8.2.2.2.length]; exact hzl
          · have hS8 := hSc.step s18
            have := hS8.pin (o := .lst (ws ++ [w])) (nl _) mk8.2.1 (hS8.out (nl _))
            rwa [upd_upd] at this
theorem wo_lc2 {elt tg iter tg1 iter1 : Expr} {ifs ifs1 : List Expr} {scope : Scope} (own : List (Str × Nat)) (vs1 : List Nat) (ok : blkB c.N c.sc scope own = true) (hv : (vs1.all fun i => (own.map (·.2)).contains i) = true)
    (h : Lc2 c elt tg iter tg1 iter1 ifs ifs1 scope own vs1 Q Δ)
    (hs : ∀ env x, foldedSetIterable iter env x = pure x := by intro _ _; rfl) (hs1 : ∀ env x, foldedSetIterable iter1 env x = pure x := by intro _ _; rfl) (hh : c.hot = none := by rfl) : WO c (.ListComp elt [⟨tg, iter, ifs, 0⟩, ⟨tg1, iter1, ifs1, 0⟩] scope pos) Q Δ := fun X H0 Z0 hX σ H Z hS =>
  We.of (pe_lc2 (hX.calm hh) (by rw [hX.N]; exact hX.nd) pi_wi (by rw [hX.N, hX.sc]; exact blkOk_of ok) (fun i hi => List.contains_iff_mem.mp (List.all_eq_true.mp hv i hi)) pg_b pt_b pi_b pg_b pt_b pe_b (hs X.env) hs1) (lc2_run h hh hX hS)
/-- x = [.. for .. for ..] -/
theorem ws_setLc2 (i : Nat) {x : Str} {p p1 : Pos} {elt tg iter tg1 iter1 : Expr} {ifs ifs1 : List Expr} {scope : Scope} (own : List (Str × Nat)) (vs1 : List Nat) (ok : blkB c.N c.sc scope own = true) (hv : (vs1.all fun i => (own.map (·.2)).contains i) = true) (hi : c.N[i]? = some x) (hx : c.sc.names.lookup x = some .local)
    (h : Lc2 c elt tg iter tg1 iter1 ifs ifs1 scope own vs1 (fun d => T.nx (Δ.set i (some d))) Δ)
    (hk : c.sc.kind = .function := by rfl) (hp : (p.line == p1.line) = true := by rfl) (hn : (scope.names.any fun (n, k) => n == x && (k == .local || k == .cell)) = false := by decide +kernel) (hs : ∀ env x, foldedSetIterable iter env x = pure x := by intro _ _; rfl) (hs1 : ∀ env x, foldedSetIterable iter1 env x = pure x := by intro _ _; rfl) (hst : c.st x = true := by rfl) (hh : c.hot = none := by rfl) : WS c (.Assign [.Name x p] (.ListComp elt [⟨tg, iter, ifs, 0⟩, ⟨tg1, iter1, ifs1, 0⟩] scope p1) pos) T Δ := fun X H0 Z0 hX σ H Z hS => by
  have hsw : ∀ line, swapsWith (.ListComp elt [⟨tg, iter, ifs, 0⟩, ⟨tg1, iter1, ifs1, 0⟩] scope p1) (some (.Name x p)) line X.env = pure true := fun line => by
    show (pure (X.env.blockKind == .function && X.env.kindOf x == some .local && p.line == p1.line && !(scope.names.any fun (n, k) => n == x && (k == .local || k == .cell))) : Sem Bool) = pure true
    have e : X.env.kindOf x = some .local := by show X.env.scope.names.lookup x = _; rw [hX.sc]; exact hx
    have e2 : X.env.blockKind = .function := by
      unfold Env.blockKind
      rw [hX.sc, hk]; rfl
    rw [e, e2, hp, hn]; rfl
  refine Ws.of (ps_setLc2 (own := own) (vs1 := vs1) (wi := Wi X tg iter) (hX.calm hh) (by rw [hX.N]; exact hX.nd) (by rw [hX.N]; exact hi) (by rw [hX.sc]; exact hx) (hsw _) pi_wi (by rw [hX.N, hX.sc]; exact blkOk_of ok) (fun i hi => List.contains_iff_mem.mp (List.all_eq_true.mp hv i hi)) pg_b pt_b pi_b pg_b pt_b pe_b (hs X.env) hs1) ?_
  have r := lc2_run h hh hX.toCtxOk hS
  have mono : ∀ {wi wi1 : TI} {g g1 : TG} {tt tt1 : TT} {te : TE} {vs vs1 : List Nat} {Q Q' : VK}, (∀ {R R' : It → Hp → Prop}, (∀ J H', R J H' → R' J H') → wi σ H R → wi σ H R') → tLc2 wi g tt wi1 g1 tt1 te vs vs1 σ H Q → (∀ v H', Q v H' → Q' v H') → tLc2 wi g tt wi1 g1 tt1 te vs vs1 σ H Q' := fun {wi wi1 g g1 tt tt1 te vs vs1 Q Q'} mw t k =>
    mw (fun J H' r Dl hD => by
      obtain ⟨W, w0, st⟩ := r Dl hD
      exact ⟨W, w0, fun i m H2 w => (st i m H2 w).imp (fun ⟨a, b⟩ => ⟨a, k _ _ b⟩) id⟩) t
  exact mono (fun k h => h.mono k) r fun v H1 ⟨Z1, d, s1, r1, q⟩ => ⟨Z1, _, s1.le, hS.setO s1 i r1, q⟩
end
end DL
end
section
set_option Elab.async false
set_option linter.all false
set_option maxRecDepth 100000
set_option maxHeartbeats 4000000
/-! DL28: one's own dict, made, its length; index and extend of one's own list; max of a tuple; sorted(set(t)). -/
namespace DL
open PySem PySem.Spec PyProof.Rows L2 PySem.W
section
variable {X : Cx}
def rLenK : List V → Hp → VK → Prop := fun xs H Q => ∃ (a : Addr) (kvs : List (Key × V)), xs = [V.ref a] ∧ H a = some (.dK kvs) ∧ Q (.int kvs.length) H
theorem cr_lenK : CallR X (.builtin "len") rLenK := by
  intro pins s σ H vs us Q I r h
  obtain ⟨a, kvs, rfl, hs, q⟩ := h
  rw [Vals.ref1 r]
  exact d_len I (.of hs) fun t s' I' => ⟨.int _, H, I', ⟨_, rfl⟩, q⟩
def rMaxT (K : PySem.W.Frag) : List V → Hp → VK → Prop := fun vs H Q => ∃ (a : Addr) (ns : List Int), vs = [V.ref a] ∧ SqT K H a (ns.map V.int) ∧ 0 < ns.length ∧ ∀ m, m ∈ ns → (∀ y ∈ ns, y ≤ m) → Q (.int m) H
theorem maxOf_ints : ∀ (xs : List Int) (x : Int), maxOf x xs ∈ x :: xs ∧ ∀ y ∈ x :: xs, y ≤ maxOf x xs
  | [], x => ⟨by show x ∈ [x]; simp, fun y hy => by rw [List.mem_singleton] at hy; subst hy; exact Int.le_refl _⟩
  | z :: xs, x => by
    have e : maxOf x (z :: xs) = maxOf (if x < z then z else x) xs := by
      unfold maxOf
      rw [List.foldl_cons]
      congr 1
      show (if decide (x < z) = true then z else x) = _
      by_cases h : x < z <;> simp [h]
    rw [e]
    obtain ⟨h1, h2⟩ := maxOf_ints xs (if x < z then z else x)
    have h3 := h2 _ List.mem_cons_self
    refine ⟨?_, fun y hy => ?_⟩
    · rcases List.mem_cons.mp h1 with h | h
      · rw [h]
        by_cases hx : x < z
        · rw [if_pos hx]; simp
        · rw [if_neg hx]; simp
      · exact List.mem_cons_of_mem _ (List.mem_cons_of_mem _ h)
    · rcases List.mem_cons.mp hy with rfl | hy
      · by_cases hx : y < z
        · rw [if_pos hx] at h3 ⊢; omega
        · rw [if_neg hx] at h3 ⊢; exact h3
      · rcases List.mem_cons.mp hy with rfl | hy
        · by_cases hx : x < y
          · rw [if_pos hx] at h3 ⊢; exact h3
          · rw [if_neg hx] at h3 ⊢; omega
        · exact h2 y (List.mem_cons_of_mem _ hy)
theorem cr_maxT (hc : X.calm = true) (hu : X.A.units + 2 < cLine) : CallR X (.builtin "max") (rMaxT X.K) := by
  intro pins s σ H vs us Q I r h
  obtain ⟨a, ns, rfl, hs, hn, q⟩ := h
  obtain ⟨its, rv, hl, _⟩ := I.tuple hs
  rw [Vals.ref1 r]
  have hi := rv.ints
  cases ns with
  | nil => cases hn
  | cons x xs =>
    obtain ⟨m1, m2⟩ := maxOf_ints xs x
    refine max_tuple_datum (α := Int) (x := x) (xs := xs) (I.ok.hd hc) hl (HoldAll.of_ints (by simpa using hi)) (by show X.A.units + 1 + 0 < cLine; omega) fun i v h' tk hv hh k => ?_
    obtain ⟨t, e⟩ := PyProof.Rows.IntsAre.int_at hi i v (by simpa using hv)
    subst e
    obtain ⟨as, rr⟩ := hh
    have ev : (x :: xs).getD i 0 = maxOf x xs := by
      generalize (x :: xs).getD i 0 = z at rr
      generalize maxOf x xs = y at rr
      have rr : Reads h' (.int z t) (.int y) as := rr
      cases rr; rfl
    rw [ev]
    exact ⟨.int _, H, I.kept k, ⟨_, rfl⟩, q _ m1 m2⟩
def rSetI (K : PySem.W.Frag) (w : World) : List V → Hp → VK → Prop := fun xs H Q => ∃ (a : Addr) (ns : List Int), xs = [V.ref a] ∧ SqT K H a (ns.map V.int) ∧ ns.length ≤ 60 ∧ ∀ p n, H p = none → n ≤ 60 → Q (.ref p) (upd H p (SetO w p (fun j => decide (j ∈ ns)) n))
theorem cr_setI (hc : X.calm = true) : CallR X (.type "set") (rSetI X.K X.w) := by
  intro pins s σ H vs us Q I r h
  obtain ⟨a, ns, rfl, hs, hn, q⟩ := h
  obtain ⟨its, rv, hl, _⟩ := I.tuple hs
  rw [Vals.ref1 r]
  have hfr : H s.heap.objs.size = none := I.hok.fresh (Nat.le_refl _)
  refine call_set_tupI (P := X.prog) (w := X.w) ns (I.ok.hd hc) hl (by simpa using rv.ints) (by unfold scanBound; omega) fun h' tk n R hle k => ?_
  exact ⟨.ref _, upd H s.heap.objs.size (SetO X.w s.heap.objs.size (fun j => decide (j ∈ ns)) n), I.laid (t' := tk) k (Nat.le_refl _) (setO_new R), rfl, q _ n hfr (by omega)⟩
end
section
variable {c : Cf} {e a b : Expr} {es : List Expr} {Q : D → Prop} {Δ : Dl} {pos : Pos} {T : Te}
/-- {} -/
theorem wo_dict0 (q : ∀ p : Addr, Q (.oK p [] [])) : WO c (.Dict [] [] pos) Q Δ := fun X H0 Z0 hX σ H Z hS =>
  We.of pe_dnewK fun p hp => ⟨Z, _, .new hS.ok hp, .inr ⟨p, _, rfl, .of hp, hS.ok.none hp, upd_same, .dK (ks := []) (vs := []) rfl .nil⟩, q p⟩
theorem wt_niK (i : Nat) {x : Str} {p : Pos} {q : Addr} {ks : List Key} {l : List D} {Q : Bool → Prop} (hN : c.N[i]? = some x) (hv : Vis c.sc x) (hi : Δ[i]? = some (some (.oK q ks l))) (h : WE c a (fun y => ∃ k, y.key = some k ∧ Q (!(lookD ks l k).isSome)) Δ)
    (hd : (x == ("__debug__" : Str)) = false := by decide) (hcd : (x == ("__classdict__" : Str)) = false := by decide) (hh : c.hot = none := by rfl) : WT c (.Compare a [.NotIn] [.Name x p] pos) Q Δ := fun X H0 Z0 hX σ H Z hS => by
  refine Wt.of (pt_cmp (pc_dnotin (hX.hu hh) pe_we (pe_var (i := i) (by rw [hX.N]; exact hN) (by rw [hX.sc]; exact hv) hd hcd)) rfl) ?_
  refine (h X H0 Z0 hX σ H Z hS).mono fun v H1 ⟨Z1, y, s1, ry, k, hk, qq⟩ => ?_
  obtain ⟨l', o, e1, h0, zl, hl, ow⟩ := (hS.step s1).getO hi rfl
  have ev := key_of hk ry
  subst ev
  cases ow with
  | dK el rr =>
    refine ⟨_, e1, _, _, rfl, DGet.k hl, _, rfl, Z1, s1, ?_⟩
    cases q2 : lookD ks l k with
    | none => rw [(look_rel (ks := ks) (k := k) rr).1 q2]; rw [q2] at qq; exact qq
    | some d =>
      obtain ⟨w, hw, _⟩ := (look_rel (ks := ks) (k := k) rr).2 d q2
      rw [hw]; rw [q2] at qq; exact qq
/-- len(x), x one's own dict -/
theorem we_lenK (i : Nat) {x f : Str} {p p2 : Pos} {q : Addr} {ks : List Key} {l : List D} (hg : Glo c f) (hm : c.mg f = none) (hv0 : bootBuiltins f = some (.builtin "len")) (hN : c.N[i]? = some x) (hv : Vis c.sc x) (hi : Δ[i]? = some (some (.oK q ks l))) (h : Q (.int ks.length))
    (hn : f ≠ "__name__" := by decide) (hdb : (f == ("__debug__" : Str)) = false := by decide) (hd : (x == ("__debug__" : Str)) = false := by decide) (hcd : (x == ("__classdict__" : Str)) = false := by decide) : WE c (.Call (.Name f p2) [.Name x p] [] pos) Q Δ := fun X H0 Z0 hX σ H Z hS => by
  refine We.of (pe_callB cr_lenK (hX.gl hg) (by rw [hX.mg]; exact hm) hv0 (pa_cons (pe_var (i := i) (by rw [hX.N]; exact hN) (by rw [hX.sc]; exact hv) hd hcd) pa_nil rfl) hn hdb rfl rfl) ?_
  obtain ⟨l', o, e1, h0, zl, hl, ow⟩ := hS.getO hi rfl
  refine ⟨_, e1, ?_⟩
  cases ow with
  | dK el rr => exact ⟨_, _, rfl, hl, Z, _, .refl hS.ok, .int, by rw [List.length_zip, ← el, Nat.min_self]; exact h⟩
theorem eqV_int {i j : Int} : eqV (V.int i) (V.int j) = decide (i = j) := by
  show (i == j) = _
  by_cases h : i = j <;> simp [h]
/-- x.index(e), x one's own list of ints -/
theorem we_idx (i : Nat) {x : Str} {p ap cp : Pos} {ns : List Int} (hN : c.N[i]? = some x) (hv : Vis c.sc x) (hi : Δ[i]? = some (some (.ol (ns.map D.int))))
    (h : WE c e (fun y => ∃ (k : Int) (j : Nat), y = .int k ∧ ns[j]? = some k ∧ (∀ m : Nat, m < j → ns[m]? ≠ some k) ∧ Q (.int (j : Nat))) Δ) (hse : isStar e = false := by rfl) (hline : (ap.endLine == cp.line) = true := by rfl)
    (hd : (x == ("__debug__" : Str)) = false := by decide) (hcd : (x == ("__classdict__" : Str)) = false := by decide) :
    WE c (.Call (.Attribute (.Name x p) "index" ap) [e] [] cp) Q Δ := fun X H0 Z0 hX σ H Z hS => by
  refine We.of (pe_bm PySem.F.plainAttrs_list PySem.F.slot_list_index PySem.F.type_list_index mt_index (pe_var (i := i) (by rw [hX.N]; exact hN) (by rw [hX.sc]; exact hv) hd hcd) (pa_cons pe_we pa_nil (star1 hse)) rfl (by rw [star1 hse]; rfl) hline (star1 hse) rfl) ?_
  obtain ⟨l, o, e1, h0, zl, hl, r⟩ := hS.getO hi rfl
  cases r with
  | lst rr =>
    rename_i vs
    refine ⟨_, e1, .inl ⟨rfl, _, .of hl⟩, ?_⟩
    refine (h X H0 Z0 hX σ H Z hS).mono fun v H1 ⟨Z1, y, s1, ry, k, j, ey, hj, hno, q⟩ => ?_
    subst ey
    cases ry
    have kk := s1.keep l _ hl zl ⟨fun ps e => (nomatch e), fun c q e => (nomatch (show _ = HO.ext _ from e))⟩
    have ev := rr.of_ints
    subst ev
    refine ⟨l, ns.map V.int, .int k, j, .int k, rfl, rfl, .of kk.1, rfl, ?_, by rw [List.getElem?_map, hj]; rfl, by rw [eqV_int]; simp, fun m z' hm hz => ?_, Z1, _, s1, .int, q⟩
    · rw [List.all_map]; exact List.all_eq_true.mpr fun _ _ => rfl
    · rw [List.getElem?_map] at hz
      cases q2 : ns[m]? with
      | none => rw [q2] at hz; cases hz
      | some u =>
        rw [q2] at hz; cases hz
        rw [eqV_int, decide_eq_false_iff_not]
        exact fun z => hno m hm (by rw [q2, z])
/-- x.extend(e) -/
theorem ws_ext (i : Nat) {x : Str} {p ap cp : Pos} {ds : List D} (hN : c.N[i]? = some x) (hv : Vis c.sc x) (hi : Δ[i]? = some (some (.ol ds)))
    (h : WE c e (fun y => ∃ ys, y = .lst ys ∧ ds.length + ys.length ≤ sizeLine ∧ T.nx (Δ.set i (some (.ol (ds ++ ys))))) Δ) (hse : isStar e = false := by rfl) (hline : (ap.endLine == cp.line) = true := by rfl) (hs : ∀ env, swapsWith (.Call (.Attribute (.Name x p) "extend" ap) [e] [] cp) none pos.line env = pure false := by intro _; rfl)
    (hd : (x == ("__debug__" : Str)) = false := by decide) (hcd : (x == ("__classdict__" : Str)) = false := by decide) :
    WS c (.Expr (.Call (.Attribute (.Name x p) "extend" ap) [e] [] cp) pos) T Δ := fun X H0 Z0 hX σ H Z hS => by
  refine Ws.of (ps_expr (pe_bm PySem.F.plainAttrs_list PySem.F.slot_list_extend PySem.F.type_list_extend mt_extend (pe_var (i := i) (by rw [hX.N]; exact hN) (by rw [hX.sc]; exact hv) hd hcd) (pa_cons pe_we pa_nil (star1 hse)) rfl (by rw [star1 hse]; rfl) hline (star1 hse) rfl) (hs _)) ?_
  obtain ⟨l, o, e1, h0, zl, hl, r⟩ := hS.getO hi rfl
  cases r with
  | lst rr =>
    rename_i vs
    refine ⟨_, e1, .inl ⟨rfl, _, .of hl⟩, ?_⟩
    refine (h X H0 Z0 hX.toCtxOk σ H Z hS).mono fun v H1 ⟨Z1, y, s1, ry, ys, ey, hz, q⟩ => ?_
    subst ey
    have k := s1.keep l _ hl zl ⟨fun ps e => (nomatch e), fun c q e => (nomatch (show _ = HO.ext _ from e))⟩
    obtain ⟨b, ws, rfl, hb, _, rw'⟩ := ry.lst_inv s1.ok
    exact ⟨l, b, vs, ws, rfl, rfl, k.1, hb, by rw [rr.length, rw'.length]; exact hz, Z1, _, s1.le, (hS.step s1).put hi rfl e1 (.lst ((rr.le s1.le).append rw')), q⟩
theorem vc_maxT {ns : List Int} (hn : 0 < ns.length) (q : ∀ m, m ∈ ns → (∀ y ∈ ns, y ≤ m) → Q (.int m)) (hh : c.hot = none := by rfl) : VC c (.builtin "max") [.tup (ns.map D.int)] Q := fun X _ _ hX H Z vs ok r => by
  obtain ⟨v, rfl, r1⟩ := r.one
  obtain ⟨p, ws, rfl, hp, _, rr⟩ := r1.tup_inv ok
  exact ⟨_, cr_maxT (hX.calm hh) (by have := (hX.room hh).un; omega), p, ns, rfl, .of (by rw [hp, rr.of_ints]), hn, fun m h1 h2 => opost ok .int (q m h1 h2)⟩
/-- sorted(set(t)), t a tuple of ints -/
theorem wo_sortSet {x y : Str} {p p2 pos2 : Pos} (hg : Glo c x) (hm : c.mg x = none) (hv : bootBuiltins x = some (.builtin "sorted")) (hg2 : Glo c y) (hm2 : c.mg y = none) (hv2 : bootBuiltins y = some (.type "set"))
    (h : WE c e (fun d => ∃ ns : List Int, d = .tup (ns.map D.int) ∧ ns.length ≤ 60 ∧ ∀ ns' : List Int, ns'.Pairwise (· < ·) → (∀ k, k ∈ ns' ↔ k ∈ ns) → Q (.ol (ns'.map D.int))) Δ) (hs : isStar e = false := by rfl)
    (hn : x ≠ "__name__" := by decide) (hdb : (x == ("__debug__" : Str)) = false := by decide) (hn2 : y ≠ "__name__" := by decide) (hdb2 : (y == ("__debug__" : Str)) = false := by decide) (hh : c.hot = none := by rfl) :
    WO c (.Call (.Name x p) [.Call (.Name y p2) [e] [] pos2] [] pos) Q Δ := fun X H0 Z0 hX σ H Z hS => by
  refine We.of (pe_callB (cr_sortedSet (hX.calm hh)) (hX.gl hg) (by rw [hX.mg]; exact hm) hv (pa_cons (pe_callTy (cr_setI (hX.calm hh)) (hX.gl hg2) (by rw [hX.mg]; exact hm2) hv2 (pa_cons pe_we pa_nil (star1 hs)) hn2 hdb2 (star1 hs) rfl) pa_nil rfl) hn hdb rfl rfl) ?_
  refine (h X H0 Z0 hX σ H Z hS).mono fun v H1 ⟨Z1, d, s1, r1, ns, ed, hl, q⟩ => ?_
  subst ed
  obtain ⟨a, ws, rfl, ha, _, rr⟩ := r1.tup_inv s1.ok
  refine ⟨a, ns, rfl, .of (by rw [ha, rr.of_ints]), hl, fun p0 n hp0 hn60 => ?_⟩
  have s2 : Stp H1 Z1 (upd H1 p0 (SetO X.w p0 (fun j => decide (j ∈ ns)) n)) Z1 := .new s1.ok hp0
  refine ⟨p0, _, n, rfl, upd_same, by omega, fun ns' p1 hpw hmm hlen hp1 => ?_⟩
  refine oPost.mono hS.ok (s1.trans s2) (opost_newL s2.ok hp1 ?_ (q ns' hpw fun k => by rw [hmm k, decide_eq_true_eq]))
  clear hmm hpw hlen
  induction ns' with
  | nil => exact .nil
  | cons i t ih => exact .cons .int ih
end
end DL
end
section
set_option Elab.async false
set_option linter.all false
set_option maxRecDepth 100000
set_option maxHeartbeats 4000000
/-! DL29: x is not True, x is not False. -/
namespace DL
open PySem PySem.Spec PyProof.Rows L2
section
variable {c : Cf} {Q : D → Prop}
theorem op_nisB {X : Cx} {k : Bool} : OpR X (compareOp .IsNot) (fun x y H Q => y = .bl k ∧ (∀ a, x = .ref a → True) ∧ Q (.bl (!decide (x = .bl k))) H) := fun pins s σ H x y v u Q I rx ry ⟨ey, _, q⟩ => by
  subst ey; cases ry
  have fin : ∀ b, (!decide (x = .bl k)) = b → EP X pins σ Q (.bool b) s := fun b hb => ⟨.bl b, H, I, rfl, by rw [← hb]; exact q⟩
  show wpAny (model X.prog X.w) X.A (do return Value.bool (!(← isSame v (.bool k)))) (EP X pins σ Q) X.xe s
  cases x with
  | non => cases rx; exact wpAny_bind (wpAny_pure (wpAny_pure (fin _ rfl)))
  | bl b =>
    cases rx
    refine wpAny_bind (wpAny_pure (wpAny_pure (fin _ ?_)))
    cases b <;> cases k <;> rfl
  | int i => obtain ⟨t, rfl⟩ := rx; exact wpAny_bind (wpAny_pure (wpAny_pure (fin _ rfl)))
  | str i => obtain ⟨t, rfl⟩ := rx; exact wpAny_bind (wpAny_pure (wpAny_pure (fin _ rfl)))
  | byt i => obtain ⟨t, rfl⟩ := rx; exact wpAny_bind (wpAny_pure (wpAny_pure (fin _ rfl)))
  | flt i => obtain ⟨t, rfl⟩ := rx; exact wpAny_bind (wpAny_pure (wpAny_pure (fin _ rfl)))
  | ref i => cases rx; exact wpAny_bind (wpAny_pure (wpAny_pure (fin _ rfl)))
  | ty i => cases rx; exact wpAny_bind (wpAny_pure (wpAny_pure (fin _ rfl)))
theorem vo_nisB {x : D} {k : Bool} (q : Q (.bl (!x.isB k))) : VO c (compareOp .IsNot) x (.bl k) Q := fun X _ _ _ H Z v u ok r1 r2 => by
  cases r2
  refine ⟨_, op_nisB (k := k), rfl, fun _ _ => trivial, opost ok .bl ?_⟩
  have e : decide (v = V.bl k) = x.isB k := by
    cases r1 <;> first | rfl | (rename_i b; cases b <;> cases k <;> rfl)
  rw [e]; exact q
end
end DL
end
section
set_option Elab.async false
set_option linter.all false
set_option maxRecDepth 100000
set_option maxHeartbeats 4000000
/-! DL30: _law_raised: as _law_caught, with None where nothing was raised. -/
namespace DL
open PySem PySem.Spec PyProof.Rows L2
section
variable {X : Cx}
theorem raised_gives (gd : X.A.guards = some []) (un : X.A.units + 200 < cLine) {Ng ps : List Str} {x a e n q : Str} {sg : Scope} {g CS : Addr} {cdg : Value} {okX : XD → Prop} {told : XD → D} {j : Nat} {b₀ : Stmt} {suite : List Stmt} {p1 p2 p3 p4 p5 p6 p7 p8 : Pos} (Sg : FnScope Ng ps sg)
    (h0 : ∀ f : Addr, (L2.start Ng [V.ref f])[0]? = some (some (V.ref f))) (hn : Ng[1]? = some n) (hln : sg.names.lookup n = some .local) (hge : sg.names.lookup e = some .globalImplicit) (hme : X.mg e = some (.ref CS)) (hde : (e == ("__debug__" : Str)) = false)
    (hex : ∀ y, okX y → PySem.W.exmOne X.K (.ref y.C) (.ref CS) = some true)
    (hsu : ∀ (y : XD) (w dd : Addr), okX y → WB ⟨X.prog, X.w, X.K, X.mg, X.base, Ng, sg, 0, fun _ => False, fun _ => true, some (w, y.C, dd), some ⟨[], none⟩⟩ (b₀ :: suite) ⟨fun _ => False, fun d _ => d = told y, fun _ => False, fun _ => False⟩ ((List.replicate Ng.length none).set 1 (some (.xc w y.C dd y.ns y.ds)))) :
    LamX.GivesTo X Ng x sg g cdg [.Try [.Expr (.Call (.Name a p1) [] [] p2) p3] [.ExceptHandler (some (.Name e p4)) (some n) (b₀ :: suite) p5] [] [] p6, .Return (some (.Constant .none j p7)) p8] a q (TTd X.K okX told .non) := by
  intro f c' s H Q tl act hc ⟨Z, W0, Nm, ok, ht, hnm, hx⟩
  refine ⟨_, pss_cons (ps_try_as (X := (cxOf C8.CX0 X.prog X.w X.K X.mg X.base Ng x sg g cdg X.A X.stack s H C8.E0).nox) (i := 1) (c := .ref CS)
      (tb := fun W D σ H' => ∃ Ech : XK, (∀ cls d σ' H', Ech cls d H' → W cls d σ' H') ∧ σ[0]? = some (some (.ref f)) ∧ H' c' = some (LamX.CodeO c' q) ∧ tl Ech H' (fun _ H2 => D.nx σ H2))
      (ts := fun w cls d D σ H' => ∀ oe pn, Zc cls d oe → (∃ vs, oe.data = .fields vs) → Wss ((cxOf C8.CX0 X.prog X.w X.K X.mg X.base Ng x sg g cdg X.A X.stack s H C8.E0).nox.suite w ((w, oe) :: pn)) (b₀ :: suite) D σ H')
      rfl rfl Sg.nd hn hln ⟨hge, hde, .inl hme⟩ LamX.takes0 (fun W pn xe tk _ => ?_) (fun w oe cls d pn hz hf => ⟨fun pins s' σ H' D I h => h oe pn hz hf pins s' I⟩)) (pss_one (ps_ret pe_non)), ?_⟩
  · refine ⟨fun pins s' σ H' D I h' => ?_⟩
    obtain ⟨Ech, hW, h1, h2, h3⟩ := h'
    have hp := pss_one (ps_expr (pos := p3) (act W pn xe Ech p1 p2 tk hW))
    exact hp.run pins s' σ H' D I ⟨h1, h2, h3⟩
  · refine ⟨fun cls d H' => ∃ Z' x, Stp H Z H' Z' ∧ RX X.K Z' H' cls d x ∧ W0 x, fun cls d σ' H' ⟨Z', y, st, rx, hw⟩ => ?_, h0 f, hc, ht _ fun v H' Z' st nm => ?_⟩
    · obtain ⟨okx, hq⟩ := hx y hw
      obtain ⟨rfl, dd, vs, rfl, zd, el, rr⟩ := rx
      refine ⟨true, hex y okx, fun _ w hw0 => ?_, fun z => nomatch z⟩
      intro oe pn hz hf pins s' I
      have hlen := I.len
      have hlen2 : (σ'.set 1 (some (V.ref w))).length = Ng.length := hlen
      have h1 : 1 < Ng.length := (List.getElem?_eq_some_iff.mp hn).1
      have hS : Slots X.K H Z (σ'.set 1 (some (V.ref w))) H' Z' ((List.replicate Ng.length none).set 1 (some (.xc w y.C dd y.ns y.ds))) := by
        refine ⟨ok, st, by rw [hlen2]; simp, fun i d' q' => ?_, fun i i' d1 d2 l q1 q2 o1 o2 _ _ => ?_⟩
        · rcases setAt q' with ⟨rfl, e2, _⟩ | ⟨_, q'⟩
          · cases e2
            exact ⟨.ref w, by rw [List.getElem?_set_self (by rw [List.length_set] at hlen2; rw [hlen2]; exact h1)], .inl (.xc zd el rr)⟩
          · rw [List.getElem?_replicate] at q'
            split at q' <;> cases q'
        · rcases setAt q1 with ⟨_, e2, _⟩ | ⟨_, q1⟩
          · cases e2; cases o1
          · rw [List.getElem?_replicate] at q1
            split at q1 <;> cases q1
      have hX : CtxS ⟨X.prog, X.w, X.K, X.mg, X.base, Ng, sg, 0, fun _ => False, fun _ => true, some (w, y.C, dd), some ⟨[], none⟩⟩ H Z ((cxOf C8.CX0 X.prog X.w X.K X.mg X.base Ng x sg g cdg X.A X.stack s H C8.E0).nox.suite w ((w, oe) :: pn)) :=
        { P := rfl, w := rfl, K := rfl, mg := rfl, base := rfl, N := rfl, sc := rfl, calm := fun z => (nomatch z),
          su := fun a C d z => by cases z; exact ⟨_, oe, pn, rfl, hz, hf⟩
          lm := fun L z => by cases z; exact ⟨⟨gd, by show X.A.units + 3 + 100 < cLine; omega⟩, .nil, fun _ _ _ z => (nomatch z)⟩, room := fun z => (nomatch z), nd := Sg.nd, fn := fun _ _ _ => .inl rfl,
          tk := LamX.takes0.imp fun cls d σ H' ⟨Z', y, st', rx, hw⟩ => hw, own := PassesOwn.never }
      refine thn (hsu y w dd okx _ H Z hX _ H' Z' hS pins s' I) fun fl s2 qq => sp_mono qq (fun σ2 H2 ⟨_, _, _, _, z⟩ => z.elim) (fun v H2 ⟨Z2, d, σ2, Δ2, hS2, r2, ed⟩ => ?_) (fun _ _ ⟨_, _, _, _, z⟩ => z.elim) fun _ _ ⟨_, _, _, _, z⟩ => z.elim
      subst ed
      exact hq v H2 Z2 hS2.stp r2
    · exact hnm nm _ _ _ st (.inl .non)
end
end DL
end
section
set_option Elab.async false
set_option linter.all false
set_option maxRecDepth 100000
set_option maxHeartbeats 4000000
/-! DL31: x == [], x != []: x a list of plain data, bools among them. -/
namespace DL
open PySem PySem.Spec PyProof.Rows L2
/-- plain data, bools among it -/
structure OkB (n : Nat) (d : D) : Prop where
  pu : d.pure = true
  la : d.py.canLay0 = true
  de : d.py.depth ≤ n
theorem OkD.okB {n : Nat} {d : D} (h : OkD n d) : OkB n d := ⟨h.pu, h.la, h.de⟩
theorem OkB.bl {n : Nat} {b : Bool} : OkB n (.bl b) := ⟨rfl, by simp only [D.py, PyData.canLay0], by simp only [D.py, PyData.depth]; exact Nat.zero_le _⟩
theorem okbs {n : Nat} : ∀ {l : List D}, (∀ d ∈ l, OkB n d) → pures l = true ∧ PyData.canLayAll0 (pys l) = true ∧ PyData.depthAll (pys l) ≤ n
  | [], _ => ⟨rfl, by simp only [pys, PyData.canLayAll0], by simp only [pys, PyData.depthAll]; exact Nat.zero_le _⟩
  | d :: l, h => by
    obtain ⟨a, b, c⟩ := okbs (l := l) fun d hd => h d (List.mem_cons_of_mem _ hd)
    have k := h d List.mem_cons_self
    refine ⟨?_, ?_, ?_⟩
    · show (d.pure && pures l) = true; rw [k.pu, a]; rfl
    · simp only [pys, PyData.canLayAll0, k.la, b, Bool.and_self]
    · simp only [pys, PyData.depthAll]; exact Nat.max_le.mpr ⟨k.de, c⟩
theorem OkB.tup {n : Nat} {l : List D} (h : ∀ d ∈ l, OkB n d) : OkB (n + 1) (.tup l) := by
  obtain ⟨a, b, c⟩ := okbs h
  exact ⟨a, by simp only [D.py, PyData.canLay0]; exact b, by simp only [D.py, PyData.depth]; omega⟩
theorem OkB.lst {n : Nat} {l : List D} (h : ∀ d ∈ l, OkB n d) : OkB (n + 1) (.lst l) := by
  obtain ⟨a, b, c⟩ := okbs h
  exact ⟨a, by simp only [D.py, PyData.canLay0]; exact b, by simp only [D.py, PyData.depth]; omega⟩
theorem OkB.shaped {n : Nat} {d : D} (h : OkB n d) (k : n ≤ 64) : SeqAt.shaped d.py = true := by
  show (d.py.canLay0 && decide (d.py.depth ≤ 64)) = true
  rw [h.la, decide_eq_true (Nat.le_trans h.de k)]; rfl
theorem eqv_nil (l : List D) : PyData.eqv (D.lst l).py (D.lst []).py = l.isEmpty := by
  cases l with
  | nil => simp [D.py, pys, PyData.eqv, PyData.eqvAll]
  | cons d l => simp [D.py, pys, PyData.eqv, PyData.eqvAll]
section
variable {c : Cf} {Q : D → Prop}
theorem vo_eqNil {l : List D} (h : ∀ d ∈ l, OkB 60 d) (q : Q (.bl l.isEmpty)) (hh : c.hot = none := by rfl) : VO c (compareOp .Eq) (.lst l) (.lst []) Q :=
  have a := OkB.lst h
  have b : OkB 61 (.lst []) := OkB.lst (n := 60) (by simp)
  vo_eqD (hh := hh) a.pu b.pu (a.shaped (by decide)) (b.shaped (by decide)) (by rw [eqv_nil]; exact q)
theorem vo_neNil {l : List D} (h : ∀ d ∈ l, OkB 60 d) (q : Q (.bl (!l.isEmpty))) (hh : c.hot = none := by rfl) : VO c (compareOp .NotEq) (.lst l) (.lst []) Q :=
  have a := OkB.lst h
  have b : OkB 61 (.lst []) := OkB.lst (n := 60) (by simp)
  vo_neD (hh := hh) a.pu b.pu (a.shaped (by decide)) (b.shaped (by decide)) (by rw [eqv_nil]; exact q)
end
end DL
end
section
set_option Elab.async false
set_option linter.all false
set_option maxRecDepth 100000
set_option maxHeartbeats 4000000
/-! DL32: own == and != against a tuple; what comes of borrowed lists may hold tuples and frozen instances. -/
namespace DL
open PySem PySem.Spec PyProof.Rows L2
mutual
def D.noL : D → Bool
  | .non => true | .bl _ => true | .int _ => true | .str _ => true | .ty _ => true | .adr _ => true
  | .tup l => noLs l
  | .ins _ _ l => noLs l
  | _ => false
def noLs : List D → Bool
  | [] => true
  | d :: ds => d.noL && noLs ds
end
mutual
theorem Rp.unshrL {K : PySem.W.Frag} {Z : Sh} {p : Addr} {us : List V} (z : Z p = some (fz (.lst us))) : ∀ {d : D} {v : V}, d.noL = true → Rp K Z v d → Rp K (unshr Z p) v d
  | .non, _, _, .non => .non
  | .bl _, _, _, .bl => .bl
  | .int _, _, _, .int => .int
  | .str _, _, _, .str => .str
  | .ty _, _, _, .ty => .ty
  | .adr _, _, _, .adr => .adr
  | .tup l, _, h, .tup (a := q) (vs := vs) zq r => by
    have ne : q ≠ p := fun e => by
      subst e
      rw [z] at zq
      cases fz_inj (Option.some.inj zq)
    exact .tup (by unfold DL.unshr; rw [if_neg ne]; exact zq) (Rps.unshrL z h r)
  | .ins C ns l, _, h, .ins (a := q) (vs := vs) zq e r => by
    have ne : q ≠ p := fun e => by
      subst e
      rw [z] at zq
      cases fz_inj (Option.some.inj zq)
    exact .ins (by unfold DL.unshr; rw [if_neg ne]; exact zq) e (Rps.unshrL z h r)
theorem Rps.unshrL {K : PySem.W.Frag} {Z : Sh} {p : Addr} {us : List V} (z : Z p = some (fz (.lst us))) : ∀ {ds : List D} {vs : List V}, noLs ds = true → Rps K Z vs ds → Rps K (unshr Z p) vs ds
  | [], _, _, .nil => .nil
  | d :: ds, _, h, .cons r t => by
    have h' : (d.noL && noLs ds) = true := h
    rw [Bool.and_eq_true] at h'
    exact .cons (Rp.unshrL z h'.1 r) (Rps.unshrL z h'.2 t)
end
section
variable {c : Cf} {e a b : Expr} {es : List Expr} {Q : D → Prop} {T : Te} {Δ : Dl} {pos : Pos}
/-- one's own list, lent while e is reckoned -/
theorem we_lend (i : Nat) {l : List D} (hi : Δ[i]? = some (some (.ol l))) (h : WE c e (fun d => d.noL = true ∧ Q d) (Δ.set i (some (.lst l)))) : WE c e Q Δ := fun X H0 Z0 hX σ H Z hS => by
  obtain ⟨p, o, zl, hl, hS2, ow⟩ := hS.letsO hi rfl
  have nb := ow.nbo
  cases ow with
  | lst r0 =>
    exact (h X H0 Z0 hX σ H _ hS2).mono fun v H' ⟨Z', d, s, r, pt, q⟩ => ⟨_, d, DL.borrow zl hl nb s, Rp.unshrL (s.le p _ shr_same) pt r, q⟩
/-- x == y, x != y: x an instance of a class whose def for it is known, y a tuple -/
theorem vo_ownT {op : CmpOp} {j : Nat} {C : Addr} {ns : List Str} {l m : List D} {sp : DSp} (M : MetD c.P c.w c.K c.mg c.base j C (cmpInfo op).2.1 sp) (hj : j ≤ c.k) (hn : PySem.W.notFirst c.K C (.type "tuple") = true) (h : sp [.ins C ns l, .tup m] (fun d => (∃ k, d = .bl k) ∧ Q d) fun _ => False)
    (hop : ∀ a b, compareOp op a b = richCompare op a b := by intro _ _; rfl) (hh : c.hot = none := by rfl) : VO c (compareOp op) (.ins C ns l) (.tup m) Q := fun X H0 Z0 hX H Z v u ok r1 r2 => by
  obtain ⟨f, fd, ps, hs, hf, hb, FF⟩ := M.ex
  obtain ⟨p, dx, vs, rfl, hp, _, _⟩ := r1.ins_inv ok
  obtain ⟨q, ws, rfl, hq, _, _⟩ := r2.tup_inv ok
  refine ⟨fun y z H' Q' => y = .ref p ∧ z = .ref q ∧ H' = H ∧ ∀ v H2, oPost c.K H Z Q v H2 → Q' v H2, ?_, rfl, rfl, rfl, fun _ _ h => h⟩
  intro pins s σ H' y z vv uu Q' I ry rz ⟨e1, e2, e3, k⟩
  subst e1 e2 e3
  cases (show vv = Value.ref p from ry)
  cases (show uu = Value.ref q from rz)
  have rm : Room j X.A := (hX.room hh).mono hj
  obtain ⟨mA, J, _⟩ := ins_get I.hok hp
  obtain ⟨_, its, _, ot, hot, hct, _⟩ := I.hok _ _ hq
  obtain ⟨od, J, _⟩ := J.look
  obtain ⟨m, hF⟩ := I.fr
  rw [hop]
  have LT : PySem.W.Looks (model X.prog X.w) s.heap (typeOf (.ref q)) (.type "tuple") := fun A Q E s k q => wpAny_typeOf_ref (k _ _ hot) (by rw [hct]; exact q)
  refine PySem.W.cmp_K (op := op) (tb := .type "tuple") rm.units0 hF I.ok.mod.kin J LT (by rw [hX.K]; exact hn) (by rw [hX.K]; exact hs) (by rw [hX.K]; exact hf) ?_
  have hsp : lift c.K sp [.ref p, .ref q] H' (fun v H2 => (∃ k, v = .bl k) ∧ oPost c.K H' Z Q v H2) (fun _ _ _ => False) := by
    refine ⟨Z, _, _, _, ok, .cons r1 (.cons r2 .nil), h, fun d ⟨⟨k, ed⟩, qd⟩ v H2 Z2 st rr => ?_, fun _ z => z.elim⟩
    subst ed
    rcases rr with rr | ⟨_, _, _, _, _, _, rr⟩
    · cases rr; exact ⟨⟨k, rfl⟩, Z2, _, st, .inl .bl, qd⟩
    · cases rr
  have FX := hX.fnOk FF
  have hl := FX.len _ _ _ _ hsp
  have hbb := hb s [.ref p, .ref q] (by have := I.kIn; rw [hX.K] at this; exact this) (by simpa using hl)
  rw [List.append_nil] at hbb
  refine wpAny_call (codeAny_mono (FX.run X.A X.stack s H' ⟨[.ref p, .ref q], []⟩ [.ref p, .ref q] [.ref p, .ref q] _ _ rm I.env0 hbb (.cons rfl (.cons rfl .nil)) hsp) fun r s' hq' => ?_)
  match r, hq' with
  | .error y, hq' => obtain ⟨_, _, _, _, _, _, _, _, _, _, _, _, z⟩ := hq'; exact z.elim
  | .ok .next, hq' => exact False.elim hq'
  | .ok .brk, hq' => exact False.elim hq'
  | .ok .cont, hq' => exact False.elim hq'
  | .ok (.ret w), hq' =>
    obtain ⟨z, H2, I2, rz, ⟨kk, ek⟩, ez⟩ := I.after hq'
    subst ek
    cases rz
    exact ⟨.bl kk, H2, I2, rfl, k _ _ ez⟩
end
end DL
end
section
set_option Elab.async false
set_option linter.all false
set_option maxRecDepth 100000
set_option maxHeartbeats 4000000
/-! DL33: a zip object kept in a variable: x = zip(a, b), then return all([.. for .. in x]). -/
namespace DL
open PySem PySem.Spec PyProof.Rows L2
/-- an object tracked as it stands -/
def rawO (c : Addr) (o : Obj) : HO := .ext fun h => h.get? c = some o
/-- FpOk's part that no heap and no pin says -/
def FpX (X : Cx) (b : Addr) : Prop := b ≠ X.env.locals ∧ b ∉ X.fs ∧ (b ∈ X.ex ∨ X.s_0.heap.objs.size ≤ b) ∧ ∀ x c, X.env.cells.lookup x = some c → c ≠ b
section
variable {X : Cx} {pins : List (Addr × Obj)} {σ : L2.St} {H : Hp} {s : Shared} {c : Addr} {o : Obj}
theorem fpX_of (f : FpOk X pins H c) : FpX X c := ⟨f.2.1, f.2.2.1, f.2.2.2.1, f.2.2.2.2.1⟩
theorem fpOk_upd {d : Addr} {u : HO} (f : FpOk X pins H c) (h : c ≠ d) : FpOk X pins (upd H d u) c := ⟨by rw [upd_ne h]; exact f.1, f.2⟩
theorem inv_raw (I : Inv X pins σ H s) (ho : s.heap.get? c = some o) (f : FpOk X pins H c) : Inv X pins σ (upd H c (rawO c o)) s := by
  obtain ⟨hn, hL, hF, hnew, hC, hP⟩ := f
  have n0 : ∀ b ob, X.s_0.heap.get? b = some ob → b ∉ X.ex → b ≠ c := fun b ob e hx z => by
    subst z
    rcases hnew with h | h
    · exact hx h
    · exact absurd (Heap.lt_size e) (Nat.not_lt.mpr h)
  have neS : ∀ b u, H b = some u → b ≠ c := fun b u e z => by rw [z, hn] at e; cases e
  refine ⟨I.ok, I.os, I.bare, ⟨I.base.keep, I.base.slot, fun b ob e n hx => ?_, I.base.there, fun b xs e => ?_, fun b o2 u e => ?_, fun b ps e => ?_⟩, I.loc, I.cell, ?_, fun x d e => ?_, fun p hp => ?_, ?_, I.len⟩
  · rw [upd_ne (n0 b ob e hx)]; exact I.base.free b ob e n hx
  · have q := I.base.tups b xs e
    rw [upd_ne (neS b _ q)]; exact q
  · have q := I.base.frzs b o2 u e
    rw [upd_ne (neS b _ q)]; exact q
  · obtain ⟨m, q⟩ := I.base.tbls b ps e
    exact ⟨m, by rw [upd_ne (neS b _ q)]; exact q⟩
  · rw [upd_ne (Ne.symm hL)]; exact I.free
  · rw [upd_ne (hC x d e)]; exact I.freeC x d e
  · obtain ⟨e, n, ne, nf, dd⟩ := I.pin p hp
    exact ⟨e, by rw [upd_ne (hP p hp)]; exact n, ne, nf, dd⟩
  · exact HOk.laidN I.hok (fun _ _ e => e) hn ⟨ho, ⟨o, ho⟩, fun h1 h2 e k => k o e⟩
theorem inv_unraw (I : Inv X pins σ (upd H c (rawO c o)) s) (hn : H c = none) (fx : FpX X c) : Inv X pins σ H s ∧ s.heap.get? c = some o ∧ FpOk X pins H c := by
  obtain ⟨hL, hF, hnew, hC⟩ := fx
  have hc : upd H c (rawO c o) c = some (rawO c o) := upd_same
  have n0 : ∀ b ob, X.s_0.heap.get? b = some ob → b ∉ X.ex → b ≠ c := fun b ob e hx z => by
    subst z
    rcases hnew with h | h
    · exact hx h
    · exact absurd (Heap.lt_size e) (Nat.not_lt.mpr h)
  have hp : ∀ p ∈ X.pn ++ pins, p.1 ≠ c := fun p hp z => by
    have := (I.pin p hp).2.1
    rw [z, hc] at this; cases this
  obtain ⟨e0, _, _⟩ := I.hok c _ hc
  have dn : ∀ b, b ≠ c → upd H c (rawO c o) b = H b := fun b h => upd_ne h
  have dT : ∀ b xs, upd H c (rawO c o) b = some (.tup xs) → H b = some (.tup xs) := fun b xs e => by
    rw [← dn b (fun z => by rw [z, hc] at e; cases e)]; exact e
  have dO : ∀ b a, upd H c (rawO c o) b = some (.own a) → H b = some (.own a) := fun b a e => by
    rw [← dn b (fun z => by rw [z, hc] at e; cases e)]; exact e
  refine ⟨⟨I.ok, I.os, I.bare, ⟨I.base.keep, I.base.slot, fun b ob e n hx => ?_, I.base.there, fun b xs e => dT b xs (I.base.tups b xs e), fun b o2 u e => ?_, fun b ps e => ?_⟩, I.loc, I.cell, ?_, fun x d e => ?_, fun p h => ?_, fun b u e => ?_, I.len⟩, e0, hn, hL, hF, hnew, hC, hp⟩
  · rw [← dn b (n0 b ob e hx)]; exact I.base.free b ob e n hx
  · have q := I.base.frzs b o2 u e
    rw [← dn b (fun z => by rw [z, hc] at q; cases q)]; exact q
  · obtain ⟨m, q⟩ := I.base.tbls b ps e
    exact ⟨m, by rw [← dn b (fun z => by rw [z, hc] at q; cases q)]; exact q⟩
  · rw [← dn _ (Ne.symm hL)]; exact I.free
  · rw [← dn _ (hC x d e)]; exact I.freeC x d e
  · obtain ⟨e, n, ne, nf, dd⟩ := I.pin p h
    exact ⟨e, by rw [← dn _ (hp p h)]; exact n, ne, nf, dd⟩
  · have hb : b ≠ c := fun z => by rw [z, hn] at e; cases e
    have e2 : upd H c (rawO c o) b = some u := by rw [dn b hb]; exact e
    exact (I.hok b u e2).stay (fun d v hd q => q) (fun d q => dO _ _ q) fun d xs q => dT _ _ q
end
def trk (H : Hp) : List (Addr × Obj) → Hp
  | [] => H
  | p :: ps => upd (trk H ps) p.1 (rawO p.1 p.2)
theorem trk_none {H : Hp} {b : Addr} : ∀ {ps : List (Addr × Obj)}, (∀ p ∈ ps, p.1 ≠ b) → trk H ps b = H b
  | [], _ => rfl
  | p :: ps, h => by
    show upd (trk H ps) p.1 _ b = _
    rw [upd_ne (Ne.symm (h p List.mem_cons_self))]
    exact trk_none fun q hq => h q (List.mem_cons_of_mem _ hq)
section
variable {X : Cx} {pins : List (Addr × Obj)} {σ : L2.St} {H : Hp} {s : Shared}
theorem inv_trk (I : Inv X pins σ H s) : ∀ {ps : List (Addr × Obj)}, (ps.map (·.1)).Nodup → (∀ p ∈ ps, s.heap.get? p.1 = some p.2 ∧ FpOk X pins H p.1) → Inv X pins σ (trk H ps) s
  | [], _, _ => I
  | p :: ps, nd, h => by
    rw [List.map_cons, List.nodup_cons] at nd
    have J := inv_trk I nd.2 fun q hq => h q (List.mem_cons_of_mem _ hq)
    obtain ⟨e, f⟩ := h p List.mem_cons_self
    have ne : ∀ q ∈ ps, q.1 ≠ p.1 := fun q hq z => nd.1 (by rw [← z]; exact List.mem_map.mpr ⟨q, hq, rfl⟩)
    exact inv_raw J e ⟨by rw [trk_none ne]; exact f.1, f.2⟩
theorem inv_untrk : ∀ {ps : List (Addr × Obj)}, (ps.map (·.1)).Nodup → (∀ p ∈ ps, H p.1 = none ∧ FpX X p.1) → Inv X pins σ (trk H ps) s → Inv X pins σ H s ∧ ∀ p ∈ ps, s.heap.get? p.1 = some p.2 ∧ FpOk X pins H p.1
  | [], _, _, I => ⟨I, by simp⟩
  | p :: ps, nd, h, I => by
    rw [List.map_cons, List.nodup_cons] at nd
    have ne : ∀ q ∈ ps, q.1 ≠ p.1 := fun q hq z => nd.1 (by rw [← z]; exact List.mem_map.mpr ⟨q, hq, rfl⟩)
    obtain ⟨hn, fx⟩ := h p List.mem_cons_self
    obtain ⟨J, e, f⟩ := inv_unraw (show Inv X pins σ (upd (trk H ps) p.1 (rawO p.1 p.2)) s from I) (by rw [trk_none ne]; exact hn) fx
    obtain ⟨J2, g⟩ := inv_untrk nd.2 (fun q hq => h q (List.mem_cons_of_mem _ hq)) J
    refine ⟨J2, fun q hq => ?_⟩
    rw [List.mem_cons] at hq
    rcases hq with rfl | hq
    · exact ⟨e, hn, f.2⟩
    · exact g q hq
end
/-- a zip object made over a and b, and what belongs to it -/
def ZO (X : Cx) (k1 k2 : Bool) (n1 n2 : Nat) (a b : Addr) (H : Hp) (z : Addr) (ps : List (Addr × Obj)) : Prop :=
  ∃ tn : Nat → Heap → Prop, (∀ (elts : List Expr) (kk : Nat) (tp : Pos), Turn X.prog X.w X.K (.Tuple elts kk tp) (ItX X.K k1 k2 n1 n2 a b) (ps.map (·.1)) z tn) ∧ (∀ h : Heap, (∀ p ∈ ps, h.get? p.1 = some p.2) → tn 0 h) ∧ (∀ p ∈ ps, H p.1 = none ∧ FpX X p.1) ∧ (ps.map (·.1)).Nodup
def tZip (X : Cx) (ta : TA) : TE := fun σ H Q => ta σ H fun vs H1 => ∃ k1 k2 a b xs ys, vs = [.ref a, .ref b] ∧ SqK k1 X.K H1 a xs ∧ SqK k2 X.K H1 b ys ∧ ∀ z ps, ZO X k1 k2 xs.length ys.length a b H1 z ps → Q (.ref z) (trk H1 ps)
theorem nd5 (n : Nat) : [n + 4, n + 2, n + 3, n, n + 1].Nodup := by
  refine List.nodup_cons.mpr ⟨fun h => ?_, List.nodup_cons.mpr ⟨fun h => ?_, List.nodup_cons.mpr ⟨fun h => ?_, List.nodup_cons.mpr ⟨fun h => ?_, List.nodup_cons.mpr ⟨by simp, List.nodup_nil⟩⟩⟩⟩⟩
  all_goals (simp only [List.mem_cons, List.not_mem_nil, or_false] at h; omega)
theorem get_all {h : Heap} : ∀ {fp : List Addr}, (∀ b ∈ fp, ∃ o, h.get? b = some o) → ∃ ps : List (Addr × Obj), ps.map (·.1) = fp ∧ ∀ p ∈ ps, h.get? p.1 = some p.2
  | [], _ => ⟨[], rfl, by simp⟩
  | b :: fp, hh => by
    obtain ⟨o, e⟩ := hh b List.mem_cons_self
    obtain ⟨ps, e1, e2⟩ := get_all fun c hc => hh c (List.mem_cons_of_mem _ hc)
    refine ⟨(b, o) :: ps, by rw [List.map_cons, e1], fun p hp => ?_⟩
    rw [List.mem_cons] at hp
    rcases hp with rfl | hp
    · exact e
    · exact e2 p hp
theorem pe_zipO {X : Cx} {e e2 : Expr} {ta : TA} {p pos : Pos} (hg : Gl X "zip") (hm : X.mg "zip" = none) (ha : PA X [e, e2] ta)
    (hs : starEach [e, e2] X.env = (false, eval e X.env) :: starEach [e2] X.env := by rfl) (hpl : (backTo pos (starEach [e2] X.env)).any (·.1) = false := by rfl) :
    PE X (.Call (.Name "zip" p) [e, e2] [] pos) (tZip X ta) := by
  refine ⟨fun pins s σ H R I h => ?_⟩
  refine Call_ (ld_blt I hg hm PyProof.Rows.boot_zip (PyProof.Rows.callWith_type1 (thn (ha.run pos pins s σ H _ I h) fun us s1 ⟨vs, H1, I1, r1, k1, k2, a, b, xs, ys, ex, qx, qy, q⟩ => ?_) hs hpl))
  subst ex
  cases r1 with
  | cons r rr =>
    cases rr with
    | cons r' rr =>
      cases rr; cases r; cases r'
      obtain ⟨its, rv, pp, la⟩ := sqK_items k1 I1 qx
      obtain ⟨its2, rv2, pp2, lb⟩ := sqK_items k2 I1 qy
      obtain ⟨o1, B1, b1⟩ := begK k1 a its.toArray
      obtain ⟨o2, B2, b2⟩ := begK k2 b its2.toArray
      refine zip_begins2 B1 B2 pp pp2 fun h' hz hTI hTO g1 g2 hsz hk => ?_
      have I2 : Inv X pins σ H1 { s1 with heap := h' } := I1.kept (t' := s1.toks) hk
      have S : ZipSep2 (s1.heap.objs.size + 4) (s1.heap.objs.size + 2) (s1.heap.objs.size + 3) s1.heap.objs.size (s1.heap.objs.size + 1) [s1.heap.objs.size, a] [s1.heap.objs.size + 1, b] := zip_sep2 (fun c hc => by rw [List.mem_singleton] at hc; subst hc; exact la) (fun c hc => by rw [List.mem_singleton] at hc; subst hc; exact lb)
      have T := fun (elts : List Expr) (kk : Nat) (tpos : Pos) => turn_zipX (P := X.prog) (w := X.w) (K := X.K) (elts := elts) (kk := kk) (tpos := tpos) k1 k2 xs.length ys.length S (Nat.ne_of_lt la) (Nat.ne_of_lt (Nat.lt_succ_of_lt lb))
      have t0 : (fun i h => IsZip h (s1.heap.objs.size + 4) (s1.heap.objs.size + 2) (s1.heap.objs.size + 3) .none ∧ IsTupOf2 h (s1.heap.objs.size + 2) (.ref s1.heap.objs.size) (.ref (s1.heap.objs.size + 1)) ∧ (∃ x y, IsTupOf2 h (s1.heap.objs.size + 3) x y) ∧ itK k1 h s1.heap.objs.size a i ∧ itK k2 h (s1.heap.objs.size + 1) b i ∧ i ≤ xs.length ∧ i ≤ ys.length) 0 h' := ⟨hz, hTI, ⟨_, _, hTO⟩, b1 _ _ g1, b2 _ _ g2, Nat.zero_le _, Nat.zero_le _⟩
      obtain ⟨ps, e1, e2⟩ := get_all (h := h') (fp := [s1.heap.objs.size + 4, s1.heap.objs.size + 2, s1.heap.objs.size + 3, s1.heap.objs.size, s1.heap.objs.size + 1]) fun c hc => by
        obtain ⟨o, e, _⟩ := (T [] 0 default).obj 0 h' t0 c hc
        exact ⟨o, e⟩
      have fo : ∀ p ∈ ps, FpOk X pins H1 p.1 := fun p hp => by
        have hc : p.1 ∈ ps.map (·.1) := List.mem_map.mpr ⟨p, hp, rfl⟩
        rw [e1] at hc
        have hle : s1.heap.objs.size ≤ p.1 := by
          simp only [List.mem_cons, List.not_mem_nil, or_false] at hc
          rcases hc with h | h | h | h | h <;> rw [h] <;> omega
        exact I1.fpOk hle (I1.hok.fresh hle)
      have nd : (ps.map (·.1)).Nodup := by
        rw [e1]
        exact nd5 s1.heap.objs.size
      have zo : ZO X k1 k2 xs.length ys.length a b H1 (s1.heap.objs.size + 4) ps := ⟨_, fun elts kk tp => by rw [e1]; exact T elts kk tp, fun h hh => (T [] 0 default).keep 0 h' h t0 fun c hc o ec => by
        have hc2 : c ∈ ps.map (·.1) := by rw [e1]; exact hc
        obtain ⟨p, hp, rfl⟩ := List.mem_map.mp hc2
        rw [e2 p hp] at ec; cases ec
        exact hh p hp, fun p hp => ⟨(fo p hp).1, fpX_of (fo p hp)⟩, nd⟩
      exact ⟨.ref (s1.heap.objs.size + 4), trk H1 ps, inv_trk I2 nd fun p hp => ⟨e2 p hp, fo p hp⟩, rfl, q _ ps zo⟩
/-- over a variable that holds such an object -/
def iZipV (X : Cx) (i : Nat) : TI := fun σ H R => ∃ z ps k1 k2 n1 n2 a b H1, σ[i]? = some (some (.ref z)) ∧ H = trk H1 ps ∧ ZO X k1 k2 n1 n2 a b H1 z ps ∧ R (ItX X.K k1 k2 n1 n2 a b) H1
theorem pi_zipV {X : Cx} {i : Nat} {x : Str} {elts : List Expr} {kk : Nat} {tpos pos : Pos} (hN : X.N[i]? = some x) (hv : Vis X.env.scope x) (hd : (x == ("__debug__" : Str)) = false) (hcd : (x == ("__classdict__" : Str)) = false) : PI X (.Tuple elts kk tpos) (.Name x pos) (iZipV X i) := by
  refine ⟨fun pins s σ H R I h => ?_⟩
  obtain ⟨z, ps, k1, k2, n1, n2, a, b, H1, ez, eH, ⟨tn, T, t0, fx, nd⟩, r⟩ := h
  subst eH
  refine thn ((pe_var (pos := pos) hN hv hd hcd).run pins s σ (trk H1 ps) (fun v H' => v = .ref z ∧ H' = trk H1 ps) I ⟨_, ez, rfl, rfl⟩) fun u s1 ⟨v, H2, I2, rv, ev, e2⟩ => ?_
  subst ev e2
  cases rv
  obtain ⟨J, g⟩ := inv_untrk nd fx I2
  have t1 : tn 0 s1.heap := t0 s1.heap fun p hp => (g p hp).1
  refine (T elts kk tpos).self _ 0 s1 _ _ t1 ⟨z, ps.map (·.1), tn, _, H1, rfl, J, T elts kk tpos, t1, fun c hc => ?_, r⟩
  obtain ⟨p, hp, rfl⟩ := List.mem_map.mp hc
  exact (g p hp).2
end DL
end
section
set_option Elab.async false
set_option linter.all false
set_option maxRecDepth 100000
set_option maxHeartbeats 4000000
/-! DL34: the rule over data for x = zip(a, b); return all([.. for .. in x]). -/
namespace DL
open PySem PySem.Spec PyProof.Rows L2
section
variable {c : Cf} {e a b : Expr} {es : List Expr} {Q : D → Prop} {T : Te} {Δ : Dl} {pos : Pos}
/-- a comprehension's turns, from the state in which its iterator stands (the inner half of lc_run) -/
theorem lc_in {elt tg : Expr} {ifs : List Expr} {scope : Scope} {own : List (Str × Nat)} {items : List D} {I : List D → List D → Prop} {J : It} (hz : items.length ≤ sizeLine) (i0 : I [] [])
    (turn : ∀ pre x post acc, items = pre ++ x :: post → acc.length ≤ pre.length → I pre acc → WG (c.blk scope) (own.map (·.2)) tg x (fun Δ2 => WTs (c.blk scope) ifs (fun k => if k = true then WE (c.blk scope) elt (fun y => I (pre ++ [x]) (acc ++ [y])) Δ2 else I (pre ++ [x]) acc) Δ2) (wipeD Δ (own.map (·.2))))
    (fin : ∀ acc, acc.length ≤ items.length → I items acc → Q (.ol acc))
    (hh : c.hot = none) {X H0 Z0} (hX : CtxOk c H0 Z0 X) {σ : L2.St} {H1 : Hp} {Z1 : Sh} (hS : Slots c.K H0 Z0 σ H1 Z1 Δ) (yl : Yl c.K J H1 Z1 items) :
    ∀ Dl, H1 Dl = none → ∃ W : Nat → Nat → Hp → Prop, (∃ m, W 0 m (upd H1 Dl (.lst []))) ∧ ∀ i m H, W i m H →
      (J.stop i H ∧ oPost c.K H1 Z1 Q (.ref Dl) H) ∨ (J.go i H ∧ ∃ Nx : Hp → Prop, (∀ H', Nx H' → ∃ m', m' < m ∧ W (i + 1) m' H') ∧ ∀ x H', J.yld i H x H' → Bg X scope tg x (wipe σ (own.map (·.2))) H' fun σ2 H2 => wipe σ2 (own.map (·.2)) = wipe σ (own.map (·.2)) ∧ Bt X scope ifs σ2 H2 fun b H3 =>
        if b = true then Be X scope elt σ2 H3 fun y H4 => ∃ acc, H4 Dl = some (.lst acc) ∧ acc.length < sizeLine ∧ Nx (upd H4 Dl (.lst (acc ++ [y]))) else Nx H3) := by
  intro Dl hD
  refine ⟨fun i m H' => m = items.length - i ∧ i ≤ items.length ∧ ∃ Z' vs acc, Stp H1 Z1 H' Z' ∧ Z' Dl = none ∧ H' Dl = some (.lst vs) ∧ Rps c.K Z' vs acc ∧ acc.length ≤ i ∧ I (items.take i) acc, ⟨items.length, by simp, Nat.zero_le _, Z1, [], [], .new hS.ok hD, hS.ok.none hD, upd_same, .nil, Nat.zero_le _, i0⟩, ?_⟩
  rintro i m H' ⟨rfl, hi, Z', vs, acc, st, zD, hD', rr, hl, ii⟩
  cases e : items[i]? with
  | none =>
    have hi' : i = items.length := by have := List.getElem?_eq_none_iff.mp e; omega
    subst hi'
    rw [List.take_length] at ii
    exact .inl ⟨(yl H' Z' st.le st.ok _).2 e, Z', .ol acc, st, .inr ⟨Dl, _, rfl, .of hD, zD, hD', .lst rr⟩, fin acc hl ii⟩
  | some x =>
    obtain ⟨go, yld⟩ := (yl H' Z' st.le st.ok i).1 x e
    have hlt : i < items.length := (List.getElem?_eq_some_iff.mp e).1
    have split : items = items.take i ++ x :: items.drop (i + 1) := by
      have h2 := (List.getElem?_eq_some_iff.mp e).2
      rw [← h2, ← List.drop_eq_getElem_cons hlt, List.take_append_drop]
    have snoc : items.take (i + 1) = items.take i ++ [x] := by
      have h2 := (List.getElem?_eq_some_iff.mp e).2
      rw [List.take_succ_eq_append_getElem hlt, h2]
    refine .inr ⟨go, fun H2 => i + 1 ≤ items.length ∧ ∃ Z' vs acc, Stp H1 Z1 H2 Z' ∧ Z' Dl = none ∧ H2 Dl = some (.lst vs) ∧ Rps c.K Z' vs acc ∧ acc.length ≤ i + 1 ∧ I (items.take (i + 1)) acc, fun H2 ⟨a1, a2⟩ => ⟨items.length - (i + 1), by omega, rfl, a1, a2⟩, fun v H2 y => ?_⟩
    obtain ⟨Z2, s2, rx⟩ := yld v H2 y
    have hS2 : Slots c.K H0 Z0 (wipe σ (own.map (·.2))) H2 Z2 (wipeD Δ (own.map (·.2))) := ((hS.step st).step s2).wipe _
    have hlen : (items.take i).length = i := by rw [List.length_take]; omega
    have tn := turn (items.take i) x (items.drop (i + 1)) acc split (by rw [hlen]; exact hl) ii
    intro s0 Hb C cl fp
    refine (tn _ H0 Z0 (hX.blk hh s0 Hb C cl fp) _ H2 Z2 v hS2 rx).mono fun σ3 H3 ⟨Z3, Δ3, s3, hS3, ks, q3⟩ => ⟨?_, ?_⟩
    · have e1 := wipe_same (σ := wipe σ (own.map (·.2))) (τ := σ3) ks.1 ks.2
      rw [e1]
      exact wipe_same (wipe_length _ _) fun i hi => wipe_get hi
    · intro s0 Hb C cl fp
      refine (wts_run q3 (hX.blk hh s0 Hb C cl fp) hS3).mono fun k H4 ⟨Z4, s4, q4⟩ => ?_
      have stp : Stp H1 Z1 H4 Z4 := ((st.trans s2).trans s3).trans s4
      have s234 := (s2.trans s3).trans s4
      have nl : Nbo (.lst vs) := ⟨fun ps e => (nomatch e), fun c q e => (nomatch (show _ = HO.ext _ from e))⟩
      have kept := s234.keep Dl _ hD' zD nl
      cases k with
      | true =>
        rw [if_pos rfl] at q4 ⊢
        intro s0 Hb C cl fp
        refine (q4 _ H0 Z0 (hX.blk hh s0 Hb C cl fp) _ H4 Z4 (hS3.step s4)).mono fun w H5 ⟨Z5, y, s5, ry, q5⟩ => ?_
        have k5 := s5.keep Dl _ kept.1 kept.2 nl
        have rr5 := (rr.le s234.le).le s5.le
        refine ⟨vs, k5.1, ?_, hlt, Z5, vs ++ [w], acc ++ [y], (stp.trans s5).own (.of hD) k5.2, k5.2, upd_same, rr5.append (.cons ry .nil), ?_, ?_⟩
        · rw [rr.length]; omega
        · rw [List.length_append]; show acc.length + 1 ≤ i + 1; omega
        · rw [snoc]; exact q5
      | false =>
        rw [if_neg Bool.false_ne_true] at q4 ⊢
        exact ⟨hlt, Z4, vs, acc, stp, kept.2, kept.1, rr.le s234.le, by omega, by rw [snoc]; exact q4⟩
/-- x = zip(a, b); return all([elt for tg in x]) -/
theorem wb_zipAll {x : Str} {elt : Expr} {ts : List Expr} {kk : Nat} {tp px p2 p3 p4 p5 p6 p7 p8 p9 : Pos} {scope : Scope} (i : Nat) (own : List (Str × Nat)) (ok : blkB c.N c.sc scope own = true)
    (hil : i < Δ.length) (hi : c.N[i]? = some x) (hx : Loc c.sc x) (hv : Vis c.sc x) (hgz : Glo c "zip") (hmz : c.mg "zip" = none) (hga : Glo c "all") (hma : c.mg "all" = none)
    (h : WE c a (fun u => WE c b (fun v => ∃ xs ys, IsSeq u xs ∧ IsSeq v ys ∧ (pairs xs ys).length ≤ sizeLine ∧ ∃ I : List D → List D → Prop, I [] [] ∧
      (∀ pre y post acc, pairs xs ys = pre ++ y :: post → acc.length ≤ pre.length → I pre acc → WG (c.blk scope) (own.map (·.2)) (.Tuple ts kk tp) y (fun Δ2 => WTs (c.blk scope) [] (fun k => if k = true then WE (c.blk scope) elt (fun y2 => I (pre ++ [y]) (acc ++ [y2])) Δ2 else I (pre ++ [y]) acc) Δ2) (wipeD (Δ.set i none) (own.map (·.2)))) ∧
      ∀ acc, acc.length ≤ (pairs xs ys).length → I (pairs xs ys) acc → ∃ bs : List Bool, acc = bs.map D.bl ∧ T.rt (.bl (bs.all id)) (Δ.set i none)) Δ) Δ)
    (hst : c.st x = true := by rfl) (hs : isStar a = false := by rfl) (hs2 : isStar b = false := by rfl) (hh : c.hot = none := by rfl) (hd : (x == ("__debug__" : Str)) = false := by decide) (hcd : (x == ("__classdict__" : Str)) = false := by decide)
    (hsw : ∀ env, swapsWith (.Call (.Name "zip" p2) [a, b] [] p3) (some (.Name x px)) p4.line env = pure false := by intro _; rfl) (hfs : ∀ env y, foldedSetIterable (.Name x p6) env y = pure y := by intro _ _; rfl) :
    WB c [.Assign [.Name x px] (.Call (.Name "zip" p2) [a, b] [] p3) p4, .Return (some (.Call (.Name "all" p5) [.ListComp elt [⟨.Tuple ts kk tp, .Name x p6, [], 0⟩] scope p7] [] p8)) p9] T Δ := fun X H0 Z0 hX σ H Z hS => by
  have hXo := hX.toCtxOk
  refine Wss.of (pss_cons (ps_set (by rw [hX.N]; exact hX.nd) (by rw [hX.N]; exact hi) (hXo.loc hx) (pe_zipO (hXo.gl hgz) (by rw [hX.mg]; exact hmz) (pa_cons pe_we (pa_cons pe_we pa_nil (star1 hs2)) (star1 hs)) (star1 hs) (by rw [star1 hs2]; rfl)) (hsw _) (by rw [hX.sc]; exact hX.fn x hst hx))
    (pss_one (ps_ret (pe_callB call_any (hXo.gl hga) (by rw [hX.mg]; exact hma) boot_all (pa_cons (pe_lc (hXo.calm hh) (by rw [hX.N]; exact hX.nd) (pi_zipV (i := i) (by rw [hX.N]; exact hi) (by rw [hX.sc]; exact hv) hd hcd) (by rw [hX.N, hX.sc]; exact blkOk_of ok) pg_b pt_b pe_b (hfs X.env)) pa_nil))))) ?_
  refine (h X H0 Z0 hXo σ H Z hS).mono fun v H1 ⟨Z1, u, s1, r1, q1⟩ => ?_
  refine (q1 X H0 Z0 hXo σ H1 Z1 (hS.step s1)).mono fun v2 H2 ⟨Z2, u2, s2, r2, xs, ys, hx1, hy1, hlen, I, i0, turn, fin⟩ => ?_
  obtain ⟨k1, pa, vs, rfl, rr1, g1⟩ := seqK s2.ok hx1 (r1.le s2.le)
  obtain ⟨k2, pb, ws, rfl, rr2, g2⟩ := seqK s2.ok hy1 r2
  refine ⟨k1, k2, pa, pb, vs, ws, rfl, by rw [hX.K]; exact g1 H2 Z2 (.refl _) s2.ok, by rw [hX.K]; exact g2 H2 Z2 (.refl _) s2.ok, fun z ps zo => ?_⟩
  have hS2 : Slots c.K H0 Z0 σ H2 Z2 Δ := (hS.step s1).step s2
  have hlt : i < σ.length := by
    rw [hS.len]; exact hil
  have hS3 : Slots c.K H0 Z0 (σ.set i (some (.ref z))) H2 Z2 (Δ.set i none) := by
    have := (hS2.set i (v := .ref z) (d := .adr z) .adr).drop i
    rw [List.set_set] at this
    exact this
  refine ⟨z, ps, k1, k2, vs.length, ws.length, pa, pb, H2, by rw [List.getElem?_set_self hlt], rfl, zo, ?_⟩
  have yl : Yl c.K (ItX X.K k1 k2 vs.length ws.length pa pb) H2 Z2 (pairs xs ys) := fun H' Z' le ok i => ⟨fun d hd => ?_, fun hn => ?_⟩
  rotate_left
  · obtain ⟨x, y, hx, hy, rfl⟩ := pairs_get hd
    obtain ⟨vx, ex, rx⟩ := rr1.get hx
    obtain ⟨vy, ey, ry⟩ := rr2.get hy
    rw [hX.K]
    refine ⟨⟨vs, ws, vx, vy, g1 H' Z' le ok, g2 H' Z' le ok, rfl, rfl, ex, ey⟩, fun v H'' ⟨T, x', y', ev, hT, eH, g1', g2'⟩ => ?_⟩
    subst ev eH
    have e1 := g1' vs (g1 H' Z' le ok)
    have e2 := g2' ws (g2 H' Z' le ok)
    rw [ex] at e1; rw [ey] at e2
    cases e1; cases e2
    have s3 : Stp H' Z' (upd H' T (.tup [vx, vy])) (shr Z' T (fz (.tup [vx, vy]))) := .newS ok hT rfl
    exact ⟨_, s3, .tup shr_same (.cons ((rx.le le).le s3.le) (.cons ((ry.le le).le s3.le) .nil))⟩
  · rw [hX.K]
    refine ⟨vs, ws, g1 H' Z' le ok, g2 H' Z' le ok, rfl, rfl, ?_⟩
    rw [rr1.length, rr2.length]; exact pairs_none hn
  intro Dl hD
  obtain ⟨W, w0, wt⟩ := lc_in (Q := fun d => ∃ acc, d = .ol acc ∧ ∃ bs : List Bool, acc = bs.map D.bl ∧ T.rt (.bl (bs.all id)) (Δ.set i none)) hlen i0 turn (fun acc hl hI => ⟨acc, rfl, fin acc hl hI⟩) hh hXo hS3 yl Dl hD
  refine ⟨W, w0, fun j m Hj hW => ?_⟩
  rcases wt j m Hj hW with ⟨st, Z3, d, s3, r3, acc, rfl, bs, rfl, q⟩ | go
  · refine .inl ⟨st, ?_⟩
    obtain ⟨Z4, _, s4, r4⟩ := r3.freeze s3
    obtain ⟨r, hr, q5⟩ := vc_all (c := c) (bs := bs) (Q := fun d => d = .bl (bs.all id)) rfl hh X H0 Z0 hXo Hj Z4 [.ref Dl] s4.ok (.cons r4 .nil)
    refine ⟨fun xs H Q0 => xs = [.ref Dl] ∧ H = Hj ∧ r [.ref Dl] Hj (oPost c.K Hj Z4 fun d => d = .bl (bs.all id)) ∧ ∀ z H', oPost c.K Hj Z4 (fun d => d = .bl (bs.all id)) z H' → Q0 z H', fun pins s σ H xs us Q0 I rx ⟨ex, eH, k, m⟩ => ?_, rfl, rfl, q5, fun v3 H3 ⟨Z5, d5, s5, r5, e5⟩ => ?_⟩
    · subst ex; subst eH
      exact thn (hr pins s σ _ _ us _ I rx k) fun _ _ ⟨z, H', I', rz, qz⟩ => ⟨z, H', I', rz, m z H' qz⟩
    · subst e5
      exact ⟨Z5, _, _, _, (hS3.step s4).step s5, r5.base hS3.ok0 ((hS3.step s4)).stp, q⟩
  · exact .inr go
end
end DL
end
section
set_option Elab.async false
set_option linter.all false
set_option maxRecDepth 100000
set_option maxHeartbeats 4000000
/-! DL35: xs.append(ys.pop(i)), xs and ys lists of one's own. -/
namespace DL
open PySem PySem.Spec PyProof.Rows L2
theorem Rps.erase {K : PySem.W.Frag} {Z : Sh} : ∀ {vs : List V} {ds : List D} (k : Nat), Rps K Z vs ds → Rps K Z (vs.eraseIdx k) (ds.eraseIdx k)
  | _, _, _, .nil => .nil
  | _ :: _, _ :: _, 0, .cons _ t => t
  | _ :: _, _ :: _, k + 1, .cons r t => .cons r (Rps.erase k t)
section
variable {c : Cf} {e a b : Expr} {es : List Expr} {Q : D → Prop} {T : Te} {Δ : Dl} {pos : Pos}
theorem ws_appPop (i j : Nat) {x y : Str} {p ap cp p2 ap2 cp2 : Pos} {ds es : List D} (hij : i ≠ j) (hN : c.N[i]? = some x) (hv : Vis c.sc x) (hi : Δ[i]? = some (some (.ol ds))) (hN2 : c.N[j]? = some y) (hv2 : Vis c.sc y) (hj : Δ[j]? = some (some (.ol es)))
    (h : WE c e (fun ix => ∃ (n : Int) (k : Nat) (d : D), ix = .int n ∧ -(2 ^ 63) ≤ n ∧ n < 2 ^ 63 ∧ seqIndex? n es.length = some k ∧ es[k]? = some d ∧ ds.length < sizeLine ∧ T.nx ((Δ.set j (some (.ol (es.eraseIdx k)))).set i (some (.ol (ds ++ [d]))))) Δ)
    (hse : isStar e = false := by rfl) (hline : (ap.endLine == cp.line) = true := by rfl) (hline2 : (ap2.endLine == cp2.line) = true := by rfl) (hs : ∀ env, swapsWith (.Call (.Attribute (.Name x p) "append" ap) [.Call (.Attribute (.Name y p2) "pop" ap2) [e] [] cp2] [] cp) none pos.line env = pure false := by intro _; rfl)
    (hd : (x == ("__debug__" : Str)) = false := by decide) (hcd : (x == ("__classdict__" : Str)) = false := by decide) (hd2 : (y == ("__debug__" : Str)) = false := by decide) (hcd2 : (y == ("__classdict__" : Str)) = false := by decide) :
    WS c (.Expr (.Call (.Attribute (.Name x p) "append" ap) [.Call (.Attribute (.Name y p2) "pop" ap2) [e] [] cp2] [] cp) pos) T Δ := fun X H0 Z0 hX σ H Z hS => by
  refine Ws.of (ps_expr (pe_bm PySem.F.plainAttrs_list PySem.F.slot_list_append PySem.F.type_list_append mt_append (pe_var (i := i) (by rw [hX.N]; exact hN) (by rw [hX.sc]; exact hv) hd hcd)
    (pa_cons (pe_bm PySem.F.plainAttrs_list PySem.F.slot_list_pop PySem.F.type_list_pop mt_popAt (pe_var (i := j) (by rw [hX.N]; exact hN2) (by rw [hX.sc]; exact hv2) hd2 hcd2) (pa_cons pe_we pa_nil (star1 hse)) rfl (by rw [star1 hse]; rfl) hline2 (star1 hse) rfl) pa_nil (star1 rfl)) rfl (by rw [star1 rfl]; rfl) hline (star1 rfl) rfl) (hs _)) ?_
  obtain ⟨l, o, e1, h0, zl, hl, r⟩ := hS.getO hi rfl
  obtain ⟨l2, o2, e2, h02, zl2, hl2, r2⟩ := hS.getO hj rfl
  have hne : l ≠ l2 := fun z => by
    subst z
    exact hij (hS.sep i j _ _ l hi hj rfl rfl e1 e2)
  cases r with
  | lst rr =>
    cases r2 with
    | lst rr2 =>
      rename_i vs vs2
      refine ⟨_, e1, .inl ⟨rfl, _, .of hl⟩, _, e2, .inl ⟨rfl, _, .of hl2⟩, ?_⟩
      refine (h X H0 Z0 hX.toCtxOk σ H Z hS).mono fun v H1 ⟨Z1, ix, s1, ry, n, k, d, ei, n1, n2, hk, hd, hz, q⟩ => ?_
      subst ei
      cases ry
      have nb : ∀ us : List V, Nbo (.lst us) := fun us => ⟨fun ps e => (nomatch e), fun c q e => (nomatch (show _ = HO.ext _ from e))⟩
      have k1 := s1.keep l _ hl zl (nb _)
      have k2 := s1.keep l2 _ hl2 zl2 (nb _)
      obtain ⟨w, ew, rw_⟩ := (rr2.le s1.le).get hd
      have S1 := (hS.step s1).put hj rfl e2 (.lst (Rps.erase k (rr2.le s1.le)))
      have hi2 : (Δ.set j (some (.ol (es.eraseIdx k))))[i]? = some (some (.ol ds)) := by rw [List.getElem?_set_ne (Ne.symm hij)]; exact hi
      have S2 := S1.put hi2 rfl e1 (.lst ((rr.le s1.le).append (.cons rw_ .nil)))
      refine ⟨l2, vs2, n, k, w, rfl, rfl, k2.1, n1, n2, by rw [rr2.length]; exact hk, ew, l, vs, w, rfl, rfl, ?_, by rw [rr.length]; exact hz, Z1, _, s1.le, S2, q⟩
      rw [upd_ne hne]; exact k1.1
end
end DL
end
section
set_option Elab.async false
set_option linter.all false
set_option maxRecDepth 100000
set_option maxHeartbeats 4000000
/-! DL36: min of a list of ints; repr of lists. -/
namespace DL
open PySem PySem.Spec PyProof.Rows L2 PySem.W
theorem minOf_ints : ∀ (xs : List Int) (x : Int), minOf x xs ∈ x :: xs ∧ ∀ y ∈ x :: xs, minOf x xs ≤ y
  | [], x => ⟨by show x ∈ [x]; simp, fun y hy => by rw [List.mem_singleton] at hy; subst hy; exact Int.le_refl _⟩
  | z :: xs, x => by
    have e : minOf x (z :: xs) = minOf (if z < x then z else x) xs := by
      unfold minOf
      rw [List.foldl_cons]
      congr 1
      show (if decide (z < x) = true then z else x) = _
      by_cases h : z < x <;> simp [h]
    rw [e]
    obtain ⟨h1, h2⟩ := minOf_ints xs (if z < x then z else x)
    have h3 := h2 _ List.mem_cons_self
    refine ⟨?_, fun y hy => ?_⟩
    · rcases List.mem_cons.mp h1 with h | h
      · rw [h]
        by_cases hx : z < x
        · rw [if_pos hx]; simp
        · rw [if_neg hx]; simp
      · exact List.mem_cons_of_mem _ (List.mem_cons_of_mem _ h)
    · rcases List.mem_cons.mp hy with rfl | hy
      · by_cases hx : z < y
        · rw [if_pos hx] at h3 ⊢; omega
        · rw [if_neg hx] at h3 ⊢; exact h3
      · rcases List.mem_cons.mp hy with rfl | hy
        · by_cases hx : y < x
          · rw [if_pos hx] at h3 ⊢; exact h3
          · rw [if_neg hx] at h3 ⊢; omega
        · exact h2 y (List.mem_cons_of_mem _ hy)
def rMinL (K : PySem.W.Frag) : List V → Hp → VK → Prop := fun vs H Q => ∃ (a : Addr) (ns : List Int), vs = [V.ref a] ∧ SqL K H a (ns.map V.int) ∧ 0 < ns.length ∧ ∀ m, m ∈ ns → (∀ y ∈ ns, m ≤ y) → Q (.int m) H
section
variable {X : Cx}
theorem cr_minL (hc : X.calm = true) (hu : X.A.units + 2 < cLine) : CallR X (.builtin "min") (rMinL X.K) := by
  intro pins s σ H vs us Q I r h
  obtain ⟨a, ns, rfl, hs, hn, q⟩ := h
  obtain ⟨its, rv, hl, _⟩ := I.list hs
  rw [Vals.ref1 r]
  have hi := rv.ints
  cases ns with
  | nil => cases hn
  | cons x xs =>
    obtain ⟨m1, m2⟩ := minOf_ints xs x
    refine min_list_datum (α := Int) (x := x) (xs := xs) (I.ok.hd hc) hl.isList (HoldAll.of_ints (by simpa using hi)) (by show X.A.units + 1 + 0 < cLine; omega) fun i v h' tk hv hh k => ?_
    obtain ⟨t, e⟩ := PyProof.Rows.IntsAre.int_at hi i v (by simpa using hv)
    subst e
    obtain ⟨as, rr⟩ := hh
    have ev : (x :: xs).getD i 0 = minOf x xs := by
      generalize (x :: xs).getD i 0 = z at rr
      generalize minOf x xs = y at rr
      have rr : Reads h' (.int z t) (.int y) as := rr
      cases rr; rfl
    rw [ev]
    exact ⟨.int _, H, I.kept k, ⟨_, rfl⟩, q _ m1 m2⟩
end
section
variable {c : Cf} {Q : D → Prop}
theorem vc_minL {ns : List Int} (hn : 0 < ns.length) (q : ∀ m, m ∈ ns → (∀ y ∈ ns, m ≤ y) → Q (.int m)) (hh : c.hot = none := by rfl) : VC c (.builtin "min") [.lst (ns.map D.int)] Q := fun X _ _ hX H Z vs ok r => by
  obtain ⟨v, rfl, r1⟩ := r.one
  obtain ⟨p, ws, rfl, hp, _, rr⟩ := r1.lst_inv ok
  exact ⟨_, cr_minL (hX.calm hh) (by have := (hX.room hh).un; omega), p, ns, rfl, .of (by rw [hp, rr.of_ints]), hn, fun m h1 h2 => opost ok .int (q m h1 h2)⟩
end
theorem listText_le : ∀ ts : List Str, (listText ts).length ≤ piled ts + 2
  | [] => by show (listText []).length ≤ _; exact Nat.le_trans (show (listText []).length ≤ 2 by decide +kernel) (by omega)
  | t :: r => by
    have h := textFrom_length_pos r 1 (("[" : Str) ++ (if (0 : Nat) > 0 then ", " else "" : String) ++ t) (Nat.succ_pos 0)
    have e : ((("[" : Str) ++ (if (0 : Nat) > 0 then ", " else "" : String) ++ t)).length = 1 + t.length := by
      rw [strLen_append, strLen_append]; rfl
    have hX : (listText (t :: r)).length = (textFrom 0 "[" (t :: r)).length + 1 := by
      show (textFrom 0 "[" (t :: r) ++ "]").length = _
      rw [strLen_append]; rfl
    have hY : textFrom 0 "[" (t :: r) = textFrom 1 (("[" : Str) ++ (if (0 : Nat) > 0 then ", " else "" : String) ++ t) r := rfl
    rw [hX, hY, h, e, piled_cons]; omega
theorem Sd.lst {n m : Nat} {l : List D} (h : ∀ d ∈ l, Sd n m d) : Sd ((n + 2) * l.length + 2) (m + 1) (.lst l) := by
  obtain ⟨a, b, c, e, f⟩ := sds h
  refine ⟨a, by simp only [D.py, PyData.showable]; exact b, by simp only [D.py, PyData.hasDict]; exact c, ?_, by simp only [D.py, PyData.depth]; omega⟩
  simp only [D.py, PyData.shown]
  exact Nat.le_trans (listText_le _) (by omega)
end DL
end
section
set_option Elab.async false
set_option linter.all false
set_option maxRecDepth 100000
set_option maxHeartbeats 4000000
namespace K38
open PySem PySem.Spec PyProof.Rows L2 DL
def top (i : Nat) : Stmt := PySem.Challenge.pw_partsfound_k38_standings_walked.main.body.getD i (.Pass ⟨0, 0, 0, 0⟩)
def iL (ns : List Int) : List D := ns.map .int
def sL (xs : List Str) : List D := xs.map .str
abbrev s_is_whole : Stmt := top 15
abbrev s_is_number : Stmt := top 16
abbrev s_as_tuples : Stmt := top 17
abbrev s_is_wholes : Stmt := top 18
abbrev s_is_numbers : Stmt := top 19
def spIsWhole : DSp := fun ds Q _ => ∃ i, ds = [.int i] ∧ Q (.bl true)
def spIsNumber : DSp := fun ds Q _ => ∃ i, ds = [.int i] ∧ 0 ≤ i ∧ Q (.bl true)
def spTup0 : DSp := fun ds Q _ => ∃ i, ds = [.int i] ∧ Q (.int i)
def spTup : DSp := fun ds Q _ => ∃ ns, (ds = [.lst (iL ns)] ∨ ds = [.tup (iL ns)]) ∧ ns.length ≤ sizeLine ∧ Q (.tup (iL ns))
def spIsWholes : DSp := fun ds Q _ => ∃ ns : List Int, ds = [.tup (iL ns), .int ns.length] ∧ ns.length ≤ sizeLine ∧ Q (.bl true)
def spIsNumbers : DSp := fun ds Q _ => ∃ ns : List Int, ds = [.tup (iL ns), .int ns.length] ∧ ns.length ≤ sizeLine ∧ (∀ n ∈ ns, 0 ≤ n) ∧ Q (.bl true)
theorem all_true (n : Nat) : (List.replicate n true).all id = true := by
  induction n with
  | zero => rfl
  | succ n ih => rw [List.replicate_succ, List.all_cons, ih]; rfl
theorem rep_bl (n : Nat) : List.replicate n (D.bl true) = (List.replicate n true).map D.bl := by rw [List.map_replicate]
theorem iL_split {ns : List Int} {pre post : List D} {x : D} (h : iL ns = pre ++ x :: post) : ∃ (p q : List Int) (i : Int), ns = p ++ i :: q ∧ pre = iL p ∧ x = .int i ∧ post = iL q := by
  obtain ⟨p, r, e1, e2, e3⟩ := List.map_eq_append_iff.mp h
  obtain ⟨i, q, rfl, rfl, rfl⟩ := List.map_eq_cons_iff.mp e3
  exact ⟨p, q, i, e1, e2.symm, rfl, rfl⟩
theorem iL_len (ns : List Int) : (iL ns).length = ns.length := List.length_map ..
section
variable {P : Program} {w : World} {K : PySem.W.Frag} {mg : Str → Option Value} {base : Heap}
theorem sc_is_whole : FnScope ["value"] ["value"] (defScope s_is_whole) := ⟨rfl, rfl, rfl, by decide +kernel, rfl, by decide +kernel, by decide +kernel⟩
theorem ok_is_whole {f : Addr} {fd : FuncData} (B : Bl mg) (F : Fun K "is_whole" "is_whole" s_is_whole f fd) : FnOk P w K mg base (L2.CX P w) 1 f fd ["value"] (lift K spIsWhole) := by
  refine def_ok F sc_is_whole (fun ds Q E ⟨i, e, _⟩ => by rw [e]; rfl) fun ds Q E ⟨i, e, q⟩ => ?_
  subst e
  refine wb_cons (ws_ret (wo_of_we (we_and (we_of_wo (wo_callB rfl B.isinstance boot_isinstance ?_)))))
  refine wa_cons (we_var 0 rfl (.inl rfl) rfl rfl (wa_cons (we_ty rfl B.int boot_int (wa_nil ?_))))
  refine vc_isi (T := "int") (k := true) rfl (by decide +kernel) ⟨_, rfl, if_t rfl ?_⟩
  refine we_one (we_not (we_of_wo (wo_callB rfl B.isinstance boot_isinstance ?_)))
  refine wa_cons (we_var 0 rfl (.inl rfl) rfl rfl (wa_cons (we_ty rfl B.bool boot_bool (wa_nil ?_))))
  exact vc_isi (T := "int") (k := false) rfl (by decide +kernel) ⟨_, rfl, q⟩
theorem sc_is_number : FnScope ["value"] ["value"] (defScope s_is_number) := ⟨rfl, rfl, rfl, by decide +kernel, rfl, by decide +kernel, by decide +kernel⟩
theorem ok_is_number {f : Addr} {fd : FuncData} (F : Fun K "is_number" "is_number" s_is_number f fd) (d1 : Def P w K mg base 1 "is_whole" spIsWhole) : FnOk P w K mg base (L2.CX P w) 2 f fd ["value"] (lift K spIsNumber) := by
  refine def_ok F sc_is_number (fun ds Q E ⟨i, e, _⟩ => by rw [e]; rfl) fun ds Q E ⟨i, e, h0, q⟩ => ?_
  subst e
  refine wb_cons (ws_ret (wo_of_we (we_and (we_call d1 (Nat.le_of_ble_eq_true rfl) rfl (wa_cons (we_var 0 rfl (.inl rfl) rfl rfl (wa_nil ?_)))))))
  refine ⟨i, rfl, _, rfl, if_t rfl ?_⟩
  refine we_one (we_cmp (we_var 0 rfl (.inl rfl) rfl rfl (we_int (vo_ge ?_))))
  rw [decide_eq_true h0]; exact q
theorem sc_as_tuples : FnScope ["value", "one"] ["value"] (defScope s_as_tuples) := ⟨rfl, rfl, rfl, by decide +kernel, rfl, by decide +kernel, by decide +kernel⟩
theorem ok_tup0 {f : Addr} {fd : FuncData} (B : Bl mg) (F : Fun K "as_tuples" "as_tuples" s_as_tuples f fd) : FnOk P w K mg base (L2.CX P w) 1 f fd ["value"] (lift K spTup0) := by
  refine def_ok F sc_as_tuples (fun ds Q E ⟨i, e, _⟩ => by rw [e]; rfl) fun ds Q E ⟨i, e, q⟩ => ?_
  subst e
  refine wb_cons (ws_if (wt_val (we_of_wo (wo_callB rfl B.isinstance boot_isinstance ?_))))
  refine wa_cons (we_var 0 rfl (.inl rfl) rfl rfl (wa_cons (we_tup (wa_cons (we_ty rfl B.list boot_list (wa_cons (we_ty rfl B.tuple boot_tuple (wa_nil ⟨by show _ ≤ sizeLine; decide, wa_nil ?_⟩)))))))) 
  refine vc_isiT (T := "int") ["list", "tuple"] (k := false) rfl (by decide +kernel) ⟨_, rfl, if_f rfl ?_⟩
  refine wb_nil (wb_cons (ws_ret (wo_of_we (we_var 0 rfl (.inl rfl) rfl rfl q))))
theorem ok_tup {f : Addr} {fd : FuncData} (B : Bl mg) (F : Fun K "as_tuples" "as_tuples" s_as_tuples f fd) (d1 : Def P w K mg base 1 "as_tuples" spTup0) : FnOk P w K mg base (L2.CX P w) 2 f fd ["value"] (lift K spTup) := by
  refine def_ok F sc_as_tuples (fun ds Q E ⟨ns, e, _⟩ => by rcases e with e | e <;> rw [e] <;> rfl) fun ds Q E ⟨ns, e, hl, q⟩ => ?_
  rcases e with e | e
  · subst e
    refine wb_cons (ws_if (wt_val (we_of_wo (wo_callB rfl B.isinstance boot_isinstance ?_))))
    refine wa_cons (we_var 0 rfl (.inl rfl) rfl rfl (wa_cons (we_tup (wa_cons (we_ty rfl B.list boot_list (wa_cons (we_ty rfl B.tuple boot_tuple (wa_nil ⟨by show _ ≤ sizeLine; decide, wa_nil ?_⟩)))))))) 
    refine vc_isiT (T := "list") ["list", "tuple"] (k := true) rfl (by decide +kernel) ⟨_, rfl, if_t rfl ?_⟩
    refine wb_cons (ws_ret (wo_callTy rfl B.tuple boot_tuple (wa_cons (we_lc [("one", 1)] (by dsimp only [Cf.blk]; decide +kernel) (wi_lst (we_var 0 rfl (.inl rfl) rfl rfl ⟨_, rfl, by rw [iL_len]; exact hl, fun pre acc => acc = pre, rfl, ?_, ?_⟩))))))
    · intro pre x post acc hsp hle hI
      obtain ⟨p, q2, i, rfl, rfl, rfl, rfl⟩ := iL_split hsp
      subst hI
      exact wg_name 1 rfl (.inl rfl) (by decide) (we_call d1 (Nat.le_of_ble_eq_true rfl) rfl (wa_cons (we_var 1 rfl (.inl rfl) rfl rfl (wa_nil ⟨i, rfl, rfl⟩))))
    · intro acc hle hI
      subst hI
      exact wa_nil (vc_tupL q)
  · subst e
    refine wb_cons (ws_if (wt_val (we_of_wo (wo_callB rfl B.isinstance boot_isinstance ?_))))
    refine wa_cons (we_var 0 rfl (.inl rfl) rfl rfl (wa_cons (we_tup (wa_cons (we_ty rfl B.list boot_list (wa_cons (we_ty rfl B.tuple boot_tuple (wa_nil ⟨by show _ ≤ sizeLine; decide, wa_nil ?_⟩)))))))) 
    refine vc_isiT (T := "tuple") ["list", "tuple"] (k := true) rfl (by decide +kernel) ⟨_, rfl, if_t rfl ?_⟩
    refine wb_cons (ws_ret (wo_callTy rfl B.tuple boot_tuple (wa_cons (we_lc [("one", 1)] (by dsimp only [Cf.blk]; decide +kernel) (wi_tup (we_var 0 rfl (.inl rfl) rfl rfl ⟨_, rfl, by rw [iL_len]; exact hl, fun pre acc => acc = pre, rfl, ?_, ?_⟩))))))
    · intro pre x post acc hsp hle hI
      obtain ⟨p, q2, i, rfl, rfl, rfl, rfl⟩ := iL_split hsp
      subst hI
      exact wg_name 1 rfl (.inl rfl) (by decide) (we_call d1 (Nat.le_of_ble_eq_true rfl) rfl (wa_cons (we_var 1 rfl (.inl rfl) rfl rfl (wa_nil ⟨i, rfl, rfl⟩))))
    · intro acc hle hI
      subst hI
      exact wa_nil (vc_tupL q)
theorem sc_is_wholes : FnScope ["value", "many", "one"] ["value", "many"] (defScope s_is_wholes) := ⟨rfl, rfl, rfl, by decide +kernel, rfl, by decide +kernel, by decide +kernel⟩
theorem ok_is_wholes {f : Addr} {fd : FuncData} (B : Bl mg) (F : Fun K "is_wholes" "is_wholes" s_is_wholes f fd) (d1 : Def P w K mg base 1 "is_whole" spIsWhole) : FnOk P w K mg base (L2.CX P w) 2 f fd ["value", "many"] (lift K spIsWholes) := by
  refine def_ok F sc_is_wholes (fun ds Q E ⟨i, e, _⟩ => by rw [e]; rfl) fun ds Q E ⟨ns, e, hl, q⟩ => ?_
  subst e
  refine wb_cons (ws_ret (wo_of_we (we_and (we_of_wo (wo_callB rfl B.isinstance boot_isinstance ?_)))))
  refine wa_cons (we_var 0 rfl (.inl rfl) rfl rfl (wa_cons (we_ty rfl B.tuple boot_tuple (wa_nil ?_))))
  refine vc_isi (T := "tuple") (k := true) rfl (by decide +kernel) ⟨_, rfl, if_t rfl ?_⟩
  refine we_and (we_cmp (we_of_wo (wo_callB rfl B.len boot_len (wa_cons (we_var 0 rfl (.inl rfl) rfl rfl (wa_nil (vc_lenT ?_)))))))
  refine we_var 1 rfl (.inl rfl) rfl rfl (vo_eqi ⟨_, rfl, if_t (by rw [iL_len, decide_eq_true rfl]) ?_⟩)
  refine we_one (we_of_wo (wo_callB rfl B.all boot_all (wa_cons (we_lc [("one", 2)] (by dsimp only [Cf.blk]; decide +kernel) (wi_tup (we_var 0 rfl (.inl rfl) rfl rfl ⟨_, rfl, by rw [iL_len]; exact hl, fun pre acc => acc = List.replicate pre.length (.bl true), rfl, ?_, ?_⟩))))))
  · intro pre x post acc hsp hle hI
    obtain ⟨p, q2, i, rfl, rfl, rfl, rfl⟩ := iL_split hsp
    subst hI
    refine wg_name 2 rfl (.inl rfl) (by decide) (we_call d1 (Nat.le_of_ble_eq_true rfl) rfl (wa_cons (we_var 2 rfl (.inl rfl) rfl rfl (wa_nil ⟨i, rfl, ?_⟩))))
    show _ = _
    rw [List.length_append]; exact (List.replicate_succ' ..).symm
  · intro acc hle hI
    subst hI
    rw [rep_bl]
    refine wa_nil (vc_all ?_)
    rw [all_true]; exact q
end
def lettersS : Str := "abcdefghijklmnopqrstuvwxyz"
def signsS : Str := "abcdefghijklmnopqrstuvwxyz0123456789"
structure IsNm (x : Str) : Prop where
  ex : ∃ k r, x.cps.toList = k :: r ∧ k ∈ lettersS.cps.toList ∧ r.length ≤ 11 ∧ ∀ z ∈ k :: r, z ∈ signsS.cps.toList
structure NmsOk (xs : List Str) : Prop where
  nm : ∀ x ∈ xs, IsNm x
  nd : xs.Nodup
  ne : xs ≠ []
  ln : xs.length ≤ 100
theorem IsNm.len {x : Str} (h : IsNm x) : 1 ≤ x.length ∧ x.length ≤ 12 := by
  obtain ⟨k, r, e, _, h2, _⟩ := h.ex
  have e2 : x.length = (k :: r).length := by rw [← e]; show x.cps.size = _; rw [Array.length_toList]
  rw [e2, List.length_cons]; omega
theorem sz {n : Nat} (h : n ≤ 1000000) : n ≤ sizeLine := by rw [sizeLine_eq]; omega
theorem IsNm.ok {x : Str} (h : IsNm x) : PyData.strOk x = true := by
  obtain ⟨k, r, e, _, _, h3⟩ := h.ex
  unfold PyData.strOk
  rw [Array.all_eq_true]
  intro i hi
  have m : x.cps[i] ∈ x.cps.toList := by rw [← Array.getElem_toList]; exact List.getElem_mem _
  rw [e] at m
  have m2 := h3 _ m
  have all : signsS.cps.toList.all (fun z => decide (z < 0x110000)) = true := by decide +kernel
  exact List.all_eq_true.mp all _ m2
abbrev s_is_name : Stmt := top 24
abbrev s_short : Stmt := top 25
def spIsName : DSp := fun ds Q _ => ∃ x, ds = [.str x] ∧ IsNm x ∧ Q (.bl true)
def spShort : DSp := fun ds Q _ => ∃ xs, ds = [.tup (sL xs)] ∧ NmsOk xs ∧ Q (.bl false)
theorem sL_split {ns : List Str} {pre post : List D} {x : D} (h : sL ns = pre ++ x :: post) : ∃ (p q : List Str) (i : Str), ns = p ++ i :: q ∧ pre = sL p ∧ x = .str i ∧ post = sL q := by
  obtain ⟨p, r, e1, e2, e3⟩ := List.map_eq_append_iff.mp h
  obtain ⟨i, q, rfl, rfl, rfl⟩ := List.map_eq_cons_iff.mp e3
  exact ⟨p, q, i, e1, e2.symm, rfl, rfl⟩
theorem sL_len (ns : List Str) : (sL ns).length = ns.length := List.length_map ..
theorem sL_ok {n : Nat} {xs : List Str} (h : ∀ x ∈ xs, IsNm x) : ∀ d ∈ sL xs, OkD n d := fun d hd => by
  obtain ⟨x, hx, rfl⟩ := List.mem_map.mp hd
  exact .str (h x hx).ok
theorem any_false_rep (n : Nat) : (List.replicate n false).any id = false := by
  induction n with
  | zero => rfl
  | succ n ih => rw [List.replicate_succ, List.any_cons, ih]; rfl
theorem rep_blf (n : Nat) : List.replicate n (D.bl false) = (List.replicate n false).map D.bl := by rw [List.map_replicate]
theorem atI_nat {α : Type} {l : List α} {i : Nat} {x : α} (h : l[i]? = some x) : atI l (i : Int) = some x := by
  have hi := (List.getElem?_eq_some_iff.mp h).1
  unfold atI ixN
  rw [if_pos (Int.natCast_nonneg i), if_pos (by omega)]
  show l[(i : Int).toNat]? = _
  rw [Int.toNat_natCast]; exact h
theorem rng_split {n : Nat} {pre post : List D} {x : D} (h : rng 0 n = pre ++ x :: post) : x = .int (0 + (pre.length : Nat)) ∧ pre.length < n := by
  have hl : (pre ++ x :: post).length = n := by rw [← h, rng_len]
  have hlt : pre.length < n := by rw [← hl, List.length_append, List.length_cons]; omega
  have e := rng_get (lo := 0) hlt
  rw [h, List.getElem?_append_right (Nat.le_refl _), Nat.sub_self] at e
  exact ⟨by simpa using e, hlt⟩
theorem cut_to {l : List D} {i : Nat} (h : i ≤ l.length) : cutD l none (some (i : Int)) = l.take i := by
  unfold DL.cutD
  rw [HT.sIx_none, HT.sIx_nat, Nat.min_eq_left h]; rfl
theorem not_in_take {α : Type} {xs : List α} (nd : xs.Nodup) {i : Nat} (h : i < xs.length) : xs[i] ∉ xs.take i := fun m => by
  obtain ⟨j, hj, e⟩ := List.getElem_of_mem m
  have hj' : j < i := by rw [List.length_take] at hj; omega
  rw [List.getElem_take] at e
  have hne := (List.pairwise_iff_getElem.mp nd) j i (by omega) h hj'
  exact hne e
section
variable {P : Program} {w : World} {K : PySem.W.Frag} {mg : Str → Option Value} {base : Heap}
theorem sc_is_numbers : FnScope ["value", "many", "one"] ["value", "many"] (defScope s_is_numbers) := ⟨rfl, rfl, rfl, by decide +kernel, rfl, by decide +kernel, by decide +kernel⟩
theorem ok_is_numbers {f : Addr} {fd : FuncData} (B : Bl mg) (F : Fun K "is_numbers" "is_numbers" s_is_numbers f fd) (d1 : Def P w K mg base 2 "is_wholes" spIsWholes) : FnOk P w K mg base (L2.CX P w) 3 f fd ["value", "many"] (lift K spIsNumbers) := by
  refine def_ok F sc_is_numbers (fun ds Q E ⟨i, e, _⟩ => by rw [e]; rfl) fun ds Q E ⟨ns, e, hl, h0, q⟩ => ?_
  subst e
  refine wb_cons (ws_ret (wo_of_we (we_and (we_call d1 (Nat.le_of_ble_eq_true rfl) rfl ?_))))
  refine wa_cons (we_var 0 rfl (.inl rfl) rfl rfl (wa_cons (we_var 1 rfl (.inl rfl) rfl rfl (wa_nil ?_))))
  refine ⟨ns, rfl, hl, _, rfl, if_t rfl ?_⟩
  refine we_one (we_of_wo (wo_callB rfl B.all boot_all (wa_cons (we_lc [("one", 2)] (by dsimp only [Cf.blk]; decide +kernel) (wi_tup (we_var 0 rfl (.inl rfl) rfl rfl ⟨_, rfl, by rw [iL_len]; exact hl, fun pre acc => acc = List.replicate pre.length (.bl true), rfl, ?_, ?_⟩))))))
  · intro pre x post acc hsp hle hI
    obtain ⟨p, q2, i, rfl, rfl, rfl, rfl⟩ := iL_split hsp
    subst hI
    refine wg_name 2 rfl (.inl rfl) (by decide) (we_cmp (we_var 2 rfl (.inl rfl) rfl rfl (we_int (vo_ge ?_))))
    rw [decide_eq_true (h0 i (by simp))]
    show _ = _
    rw [List.length_append]; exact (List.replicate_succ' ..).symm
  · intro acc hle hI
    subst hI
    rw [rep_bl]
    refine wa_nil (vc_all ?_)
    rw [all_true]; exact q
theorem sc_is_name : FnScope ["value", "sign"] ["value"] (defScope s_is_name) := ⟨rfl, rfl, rfl, by decide +kernel, rfl, by decide +kernel, by decide +kernel⟩
theorem ok_is_name {f : Addr} {fd : FuncData} {t1 t2 : Tok} (B : Bl mg) (mL : mg "LETTERS" = some (.str lettersS t1)) (mS : mg "SIGNS" = some (.str signsS t2)) (F : Fun K "is_name" "is_name" s_is_name f fd) : FnOk P w K mg base (L2.CX P w) 1 f fd ["value"] (lift K spIsName) := by
  refine def_ok F sc_is_name (fun ds Q E ⟨i, e, _⟩ => by rw [e]; rfl) fun ds Q E ⟨x, e, nm, q⟩ => ?_
  subst e
  obtain ⟨n1, n2⟩ := nm.len
  obtain ⟨k, r, ex, hk, hr, hall⟩ := nm.ex
  refine wb_cons (ws_if (wt_pw (ww_or (wt_not (wt_val (we_of_wo (wo_callB rfl B.isinstance boot_isinstance ?_)))))))
  refine wa_cons (we_var 0 rfl (.inl rfl) rfl rfl (wa_cons (we_ty rfl B.str boot_str (wa_nil ?_))))
  refine vc_isi (T := "str") (k := true) rfl (by decide +kernel) ⟨_, rfl, if_f rfl ?_⟩
  refine ww_or (wt_not (wt_chain (we_int (we_of_wo (wo_callB rfl B.len boot_len (wa_cons (we_var 0 rfl (.inl rfl) rfl rfl (wa_nil (vc_lenS (sz (by omega)) (vo_le ⟨_, rfl, if_t (decide_eq_true (by omega)) (we_int (vo_le ⟨_, rfl, if_f (by rw [decide_eq_true (by omega)]; rfl) ?_⟩))⟩))))))))))
  refine ww_or1 (wt_cmp (we_ix (we_var 0 rfl (.inl rfl) rfl rfl (we_int (vi_str (k := k) (sz (by omega)) (by rw [ex]; exact atI_nat (i := 0) rfl) ?_)))))
  refine we_glob rfl mL (v := .str lettersS) ⟨_, rfl⟩ (fun _ => .str) (vo_nsign ⟨_, rfl, if_f (by rw [decide_eq_true hk]; rfl) ?_⟩)
  refine wb_nil (wb_cons (ws_ret (wo_callB rfl B.all boot_all (wa_cons (we_lc [("sign", 1)] (by dsimp only [Cf.blk]; decide +kernel) (wi_str (we_var 0 rfl (.inl rfl) rfl rfl ⟨_, rfl, ?_, fun pre acc => acc = List.replicate pre.length (.bl true), rfl, ?_, ?_⟩)))))))
  · unfold DL.signs; rw [List.length_map, ex, List.length_cons]; exact sz (by omega)
  · intro pre d post acc hsp hle hI
    subst hI
    have hm : d ∈ DL.signs x := by rw [hsp]; simp
    obtain ⟨z, hz, rfl⟩ := List.mem_map.mp hm
    rw [ex] at hz
    refine wg_name 1 rfl (.inl rfl) (by decide) (we_cmp (we_var 1 rfl (.inl rfl) rfl rfl (we_glob rfl mS (v := .str signsS) ⟨_, rfl⟩ (fun _ => .str) (vo_sign ?_))))
    rw [decide_eq_true (hall z hz)]
    show _ = _
    rw [List.length_append]; exact (List.replicate_succ' ..).symm
  · intro acc hle hI
    subst hI
    rw [rep_bl]
    refine wa_nil (vc_all ?_)
    rw [all_true]; exact q
theorem sc_short : FnScope ["deeds", "name", "at"] ["deeds"] (defScope s_short) := ⟨rfl, rfl, rfl, by decide +kernel, rfl, by decide +kernel, by decide +kernel⟩
theorem ok_short {f : Addr} {fd : FuncData} (B : Bl mg) (F : Fun K "is_short_of_names" "is_short_of_names" s_short f fd) (d1 : Def P w K mg base 1 "is_name" spIsName) : FnOk P w K mg base (L2.CX P w) 2 f fd ["deeds"] (lift K spShort) := by
  refine def_ok F sc_short (fun ds Q E ⟨i, e, _⟩ => by rw [e]; rfl) fun ds Q E ⟨xs, e, nm, q⟩ => ?_
  subst e
  have hpos : 0 < xs.length := List.length_pos_iff.mpr nm.ne
  refine wb_cons (ws_if (wt_not (wt_val (we_of_wo (wo_callB rfl B.isinstance boot_isinstance ?_)))))
  refine wa_cons (we_var 0 rfl (.inr (.inl rfl)) rfl rfl (wa_cons (we_tup (wa_cons (we_ty rfl B.list boot_list (wa_cons (we_ty rfl B.tuple boot_tuple (wa_nil ⟨by show _ ≤ sizeLine; decide, wa_nil ?_⟩)))))))) 
  refine vc_isiT (T := "tuple") ["list", "tuple"] (k := true) rfl (by decide +kernel) ⟨_, rfl, if_f rfl ?_⟩
  refine wb_nil (wb_cons (ws_for [1] (wi_tup (we_var 0 rfl (.inr (.inl rfl)) rfl rfl ⟨_, rfl, fun pre Δ' => Δ'[0]? = some (some (.tup (sL xs))) ∧ Δ'.length = 3, ⟨rfl, rfl⟩, ?_, ?_⟩))))
  · intro pre d post Δ' hsp hI
    obtain ⟨p, q2, x, rfl, rfl, rfl, rfl⟩ := sL_split hsp
    refine wg_name 1 rfl (.inl rfl) (by decide) ?_
    have hi1 : (Δ'.set 1 (some (.str x)))[1]? = some (some (.str x)) := by rw [List.getElem?_set_self (by omega)]
    refine wb_cons (ws_if (wt_not (wt_val (we_call d1 (Nat.le_of_ble_eq_true rfl) rfl (wa_cons (we_var 1 rfl (.inl rfl) hi1 rfl (wa_nil ⟨x, rfl, nm.nm x (by simp), _, rfl, if_f rfl ?_⟩)))))))
    refine wb_nil (wb_nil ?_)
    exact ⟨by rw [List.getElem?_set_ne (by decide)]; exact hI.1, by rw [List.length_set]; exact hI.2⟩
  · intro Δ' ⟨hi, hl⟩
    show WB _ _ _ _
    refine wb_cons (ws_ret (wo_of_we (we_or (we_cmp (we_of_wo (wo_callB rfl B.len boot_len ?_))))))
    refine wa_cons (we_var 0 rfl (.inr (.inl rfl)) hi rfl (wa_nil (vc_lenT ?_)))
    refine we_int (vo_eqi ⟨_, rfl, if_f (decide_eq_false (by rw [sL_len]; omega)) ?_⟩)
    refine we_one (we_of_wo (wo_callB rfl B.any boot_any (wa_cons (we_lc [("at", 2)] (by dsimp only [Cf.blk]; decide +kernel) (wi_range1 rfl B.range ?_)))))
    refine we_of_wo (wo_callB rfl B.len boot_len (wa_cons (we_var 0 rfl (.inr (.inl rfl)) hi rfl (wa_nil (vc_lenT ⟨_, rfl, ?_, ?_⟩)))))
    · rw [sL_len]; have := nm.ln; omega
    rw [sL_len]
    have hln := nm.ln
    refine ⟨by rw [rng_len]; exact sz (by omega), fun pre acc => acc = List.replicate pre.length (.bl false), rfl, ?_, ?_⟩
    · intro pre d post acc hsp hle hI
      subst hI
      obtain ⟨rfl, hlt⟩ := rng_split hsp
      have hi2 : ((wipeD Δ' [2]).set 2 (some (.int (0 + (pre.length : Nat)))))[2]? = some (some (.int (0 + (pre.length : Nat)))) := by rw [List.getElem?_set_self (by show 2 < (Δ'.set 2 none).length; rw [List.length_set]; omega)]
      have hi0 : ((wipeD Δ' [2]).set 2 (some (.int (0 + (pre.length : Nat)))))[0]? = some (some (.tup (sL xs))) := by rw [List.getElem?_set_ne (by decide)]; show (Δ'.set 2 none)[0]? = _; rw [List.getElem?_set_ne (by decide)]; exact hi
      have hx : atI (sL xs) (0 + (pre.length : Nat)) = some (.str xs[pre.length]) := by
        rw [Int.zero_add]
        refine atI_nat ?_
        unfold sL
        rw [List.getElem?_map, List.getElem?_eq_getElem hlt]; rfl
      refine wg_name 2 rfl (.inl rfl) (by decide) (we_cmp (we_ix (we_var 0 rfl (.inr (.inl rfl)) hi0 rfl (we_var 2 rfl (.inl rfl) hi2 rfl (vi_tup hx ?_)))))
      refine we_slice (we_var 0 rfl (.inr (.inl rfl)) hi0 rfl ?_)
      show WOp _ _ _ _
      refine we_var 2 rfl (.inl rfl) hi2 rfl ⟨_, rfl, vs_tup ?_⟩
      rw [Int.zero_add, cut_to (by rw [sL_len]; omega)]
      have e2 : (sL xs).take pre.length = (xs.take pre.length).map D.str := by unfold sL; rw [List.map_take]
      rw [e2]
      refine vo_inS .tup ?_
      rw [decide_eq_false (not_in_take nm.nd hlt)]
      show _ = _
      rw [List.length_append]; exact (List.replicate_succ' ..).symm
    · intro acc hle hI
      subst hI
      rw [rep_blf]
      refine wa_nil (vc_any ?_)
      rw [any_false_rep]; exact q
end
end K38
end
section
set_option Elab.async false
set_option linter.all false
set_option maxRecDepth 100000
set_option maxHeartbeats 4000000
namespace K38
open PySem PySem.Spec PyProof.Rows L2 DL
structure Cn where
  f : Int
  t : List Int
  p : List Int
deriving DecidableEq
def cN : List Str := ["first", "takes", "puts"]
def Cn.fs (n : Cn) : List D := [.int n.f, .tup (iL n.t), .tup (iL n.p)]
def Cn.d (C : Addr) (n : Cn) : D := .ins C cN n.fs
def Cn.tp (n : Cn) : D := .tup n.fs
theorem iL_inj {a b : List Int} (h : iL a = iL b) : a = b := (List.map_inj_right (f := D.int) (fun _ _ e => D.int.inj e)).mp h
theorem Cn.fs_inj {a b : Cn} (h : a.fs = b.fs) : a = b := by
  unfold Cn.fs at h
  simp only [List.cons.injEq, D.int.injEq, D.tup.injEq] at h
  obtain ⟨h1, h2, h3, _⟩ := h
  cases a; cases b
  simp only at h1 h2 h3
  subst h1
  rw [iL_inj h2, iL_inj h3]
theorem iL_ok {n : Nat} (ns : List Int) : ∀ d ∈ iL ns, OkD n d := fun d hd => by
  obtain ⟨x, _, rfl⟩ := List.mem_map.mp hd
  exact .int
theorem Cn.ok {m : Nat} (n : Cn) : OkD (m + 2) n.tp := OkD.tup fun d hd => by
  have h : d = .int n.f ∨ d = .tup (iL n.t) ∨ d = .tup (iL n.p) := by unfold Cn.fs at hd; simpa using hd
  rcases h with rfl | rfl | rfl
  · exact .int
  · exact OkD.tup (iL_ok _)
  · exact OkD.tup (iL_ok _)
structure CFx (K : PySem.W.Frag) (mg : Str → Option Value) (x : Str) (C : Addr) (fs : List Str) : Prop where
  g : mg x = some (.ref C)
  cl : ClsF K C
  isC : PySem.W.kitOne K (.ref C) (.ref C) = some true
  no : ∀ f ∈ fs, NoAttr K C f
def IsSq (d : D) (ns : List Int) : Prop := d = .lst (iL ns) ∨ d = .tup (iL ns)
def spCounter : ISp := fun ds Q _ => ∃ (n : Cn) (t p : D), ds = [.int n.f, t, p] ∧ IsSq t n.t ∧ IsSq p n.p ∧ n.t.length ≤ sizeLine ∧ n.p.length ≤ sizeLine ∧ Q cN n.fs
def cnEq (x y : List D) : Bool := PyData.eqv (D.tup x).py (D.tup y).py
def spCnEq (C : Addr) : DSp := fun ds Q _ => ∃ x y, ds = [.ins C cN x, .ins C cN y] ∧ (∃ n : Cn, x = n.fs) ∧ (∃ n : Cn, y = n.fs) ∧ Q (.bl (cnEq x y))
structure Cn.good (n : Cn) (m : Nat) : Prop where
  f0 : 0 ≤ n.f
  tl : n.t.length = m
  pl : n.p.length = m
  t0 : ∀ x ∈ n.t, 0 ≤ x
  p0 : ∀ x ∈ n.p, 0 ≤ x
def spOneFor (C : Addr) : DSp := fun ds Q _ => ∃ (n : Cn) (m : Nat), ds = [n.d C, .int m] ∧ n.good m ∧ m ≤ 100 ∧ Q (.bl true)
section
variable {P : Program} {w : World} {K : PySem.W.Frag} {mg : Str → Option Value} {base : Heap} {C : Addr}
abbrev s_cinit : Stmt := inClass (top 29) 0
abbrev s_ceq : Stmt := inClass (top 29) 1
abbrev s_oneFor : Stmt := top 30
theorem sc_cinit : FnScope ["self", "first", "takes", "puts"] ["self", "first", "takes", "puts"] (defScope s_cinit) := ⟨rfl, rfl, rfl, by decide +kernel, rfl, by decide +kernel, by decide +kernel⟩
theorem ok_cinit {f : Addr} {fd : FuncData} (CF : CFx K mg "Counter" C cN) (F : Fun K "__init__" "Counter.__init__" s_cinit f fd) (d0 : Def P w K mg base 1 "as_tuples" spTup0) (d1 : Def P w K mg base 2 "as_tuples" spTup) : FnOk P w K mg base (L2.CX P w) 3 f fd ["self", "first", "takes", "puts"] (liftI K C spCounter) := by
  refine init_ok F sc_cinit (fun ds Q E ⟨n, t, p, e, _⟩ => by rw [e]; rfl) fun a ds Q E ⟨n, t, p, e, ht, hp, lt, lp, q⟩ => ?_
  subst e
  have ft : t.own = false := by rcases ht with h | h <;> rw [h] <;> rfl
  have fp : p.own = false := by rcases hp with h | h <;> rw [h] <;> rfl
  refine wb_cons (ws_fld 0 rfl (.inl rfl) rfl CF.cl.cl (CF.no _ (by simp [cN])) rfl (by decide) (we_call d0 (Nat.le_of_ble_eq_true rfl) rfl ?_))
  refine wa_cons (we_var 1 rfl (.inl rfl) rfl rfl (wa_nil ⟨_, rfl, ?_⟩))
  refine wb_cons (ws_fld 0 rfl (.inl rfl) rfl CF.cl.cl (CF.no _ (by simp [cN])) rfl (by decide) (we_call d1 (Nat.le_of_ble_eq_true rfl) rfl ?_))
  refine wa_cons (we_var 2 rfl (.inl rfl) rfl ft (wa_nil ⟨n.t, by rcases ht with h | h <;> rw [h] <;> simp, lt, ?_⟩))
  refine wb_cons (ws_fld 0 rfl (.inl rfl) rfl CF.cl.cl (CF.no _ (by simp [cN])) rfl (by decide) (we_call d1 (Nat.le_of_ble_eq_true rfl) rfl ?_))
  refine wa_cons (we_var 3 rfl (.inl rfl) rfl fp (wa_nil ⟨n.p, by rcases hp with h | h <;> rw [h] <;> simp, lp, ?_⟩))
  exact wb_nil ⟨_, _, rfl, q⟩
theorem sc_ceq : FnScope ["self", "other"] ["self", "other"] (defScope s_ceq) := ⟨rfl, rfl, rfl, by decide +kernel, rfl, by decide +kernel, by decide +kernel⟩
theorem ok_ceq {f : Addr} {fd : FuncData} (B : Bl mg) (CF : CFx K mg "Counter" C cN) (F : Fun K "__eq__" "Counter.__eq__" s_ceq f fd) : FnOk P w K mg base (L2.CX P w) 1 f fd ["self", "other"] (lift K (spCnEq C)) := by
  refine def_ok F sc_ceq (fun ds Q E ⟨x, y, e, _⟩ => by rw [e]; rfl) fun ds Q E ⟨x, y, e, ⟨n, ex⟩, ⟨m, ey⟩, q⟩ => ?_
  subst e ex ey
  have o1 := n.ok (m := 0)
  have o2 := m.ok (m := 0)
  refine wb_cons (ws_if (wt_not (wt_val (we_of_wo (wo_callB rfl B.isinstance boot_isinstance ?_)))))
  refine wa_cons (we_var 1 rfl (.inl rfl) rfl rfl (wa_cons (we_cls rfl CF.g (wa_nil (vc_isiI CF.cl CF.isC ⟨_, rfl, if_f rfl ?_⟩)))))
  refine wb_nil (wb_cons (ws_ret (wo_of_we (we_cmp (we_tup ?_)))))
  refine wa_cons (we_fld (we_var 0 rfl (.inl rfl) rfl rfl ⟨C, cN, _, _, rfl, CF.cl.cl, CF.no _ (by simp [cN]), rfl, ?_⟩))
  refine wa_cons (we_fld (we_var 0 rfl (.inl rfl) rfl rfl ⟨C, cN, _, _, rfl, CF.cl.cl, CF.no _ (by simp [cN]), rfl, ?_⟩))
  refine wa_cons (we_fld (we_var 0 rfl (.inl rfl) rfl rfl ⟨C, cN, _, _, rfl, CF.cl.cl, CF.no _ (by simp [cN]), rfl, ?_⟩))
  refine wa_nil ⟨sz (Nat.le_of_ble_eq_true rfl), we_tup ?_⟩
  refine wa_cons (we_fld (we_var 1 rfl (.inl rfl) rfl rfl ⟨C, cN, _, _, rfl, CF.cl.cl, CF.no _ (by simp [cN]), rfl, ?_⟩))
  refine wa_cons (we_fld (we_var 1 rfl (.inl rfl) rfl rfl ⟨C, cN, _, _, rfl, CF.cl.cl, CF.no _ (by simp [cN]), rfl, ?_⟩))
  refine wa_cons (we_fld (we_var 1 rfl (.inl rfl) rfl rfl ⟨C, cN, _, _, rfl, CF.cl.cl, CF.no _ (by simp [cN]), rfl, ?_⟩))
  refine wa_nil ⟨sz (Nat.le_of_ble_eq_true rfl), ?_⟩
  exact vo_eqD o1.pu o2.pu (o1.shaped (by decide)) (o2.shaped (by decide)) q
theorem sc_oneFor : FnScope ["value", "many"] ["value", "many"] (defScope s_oneFor) := ⟨rfl, rfl, rfl, by decide +kernel, rfl, by decide +kernel, by decide +kernel⟩
theorem ok_oneFor {f : Addr} {fd : FuncData} (B : Bl mg) (CF : CFx K mg "Counter" C cN) (F : Fun K "is_one_for" "is_one_for" s_oneFor f fd) (d1 : Def P w K mg base 2 "is_number" spIsNumber) (d2 : Def P w K mg base 3 "is_numbers" spIsNumbers) : FnOk P w K mg base (L2.CX P w) 4 f fd ["value", "many"] (lift K (spOneFor C)) := by
  refine def_ok F sc_oneFor (fun ds Q E ⟨x, y, e, _⟩ => by rw [e]; rfl) fun ds Q E ⟨n, m, e, g, hm, q⟩ => ?_
  subst e
  have lt := g.tl
  have lp := g.pl
  refine wb_cons (ws_if (wt_pw (ww_or (wt_not (wt_val (we_of_wo (wo_callB rfl B.isinstance boot_isinstance ?_)))))))
  refine wa_cons (we_var 0 rfl (.inl rfl) rfl rfl (wa_cons (we_cls rfl CF.g (wa_nil (vc_isiI CF.cl CF.isC ⟨_, rfl, if_f rfl ?_⟩)))))
  refine ww_or1 (wt_not (wt_val (we_call d1 (Nat.le_of_ble_eq_true rfl) rfl (wa_cons (we_fld ?_)))))
  refine we_var 0 rfl (.inl rfl) rfl rfl ⟨C, cN, _, _, rfl, CF.cl.cl, CF.no _ (by simp [cN]), rfl, wa_nil ⟨_, rfl, g.f0, _, rfl, if_f rfl ?_⟩⟩
  refine wb_nil (wb_cons (ws_ret (wo_of_we (we_and (we_call d2 (Nat.le_of_ble_eq_true rfl) rfl (wa_cons (we_fld ?_)))))))
  refine we_var 0 rfl (.inl rfl) rfl rfl ⟨C, cN, _, _, rfl, CF.cl.cl, CF.no _ (by simp [cN]), rfl, wa_cons (we_var 1 rfl (.inl rfl) rfl rfl (wa_nil ⟨n.t, by rw [lt], sz (by omega), g.t0, _, rfl, if_t rfl ?_⟩))⟩
  refine we_one (we_call d2 (Nat.le_of_ble_eq_true rfl) rfl (wa_cons (we_fld ?_)))
  refine we_var 0 rfl (.inl rfl) rfl rfl ⟨C, cN, _, _, rfl, CF.cl.cl, CF.no _ (by simp [cN]), rfl, wa_cons (we_var 1 rfl (.inl rfl) rfl rfl (wa_nil ⟨n.p, by rw [lp], sz (by omega), g.p0, q⟩))⟩
theorem pairs_len (xs ys : List D) : (pairs xs ys).length ≤ xs.length := by
  unfold pairs; rw [List.length_map, List.length_zip]; exact Nat.min_le_left _ _
theorem pairs_mem {a b : List Int} {d : D} (h : d ∈ pairs (iL a) (iL b)) : ∃ x y : Int, d = .tup [.int x, .int y] := by
  unfold pairs at h
  obtain ⟨⟨u, v⟩, m, rfl⟩ := List.mem_map.mp h
  have m1 := (List.of_mem_zip m).1
  have m2 := (List.of_mem_zip m).2
  obtain ⟨x, _, rfl⟩ := List.mem_map.mp m1
  obtain ⟨y, _, rfl⟩ := List.mem_map.mp m2
  exact ⟨x, y, rfl⟩
end
theorem ixN_at {n i : Nat} (h : i < n) : ixN n (i : Int) = some i := by
  unfold ixN
  rw [if_pos (Int.natCast_nonneg i), if_pos (by omega), Int.toNat_natCast]
theorem getD_get {l : List Int} {i : Nat} (h : i < l.length) : l[i]? = some (l.getD i 0) := by
  rw [List.getD_eq_getElem?_getD, List.getElem?_eq_getElem h]; rfl
theorem getD_nn {l : List Int} (h : ∀ x ∈ l, 0 ≤ x) (i : Nat) : 0 ≤ l.getD i 0 := by
  rw [List.getD_eq_getElem?_getD]
  cases e : l[i]? with
  | none => exact Int.le_refl _
  | some x => exact h x (List.mem_of_getElem? e)
def nN : List Str := ["deeds", "counters", "rows"]
theorem iL_get {l : List Int} {i : Nat} {x : Int} (h : l[i]? = some x) : (iL l)[i]? = some (.int x) := by unfold iL; rw [List.getElem?_map, h]; rfl
theorem iL_set (l : List Int) (i : Nat) (x : Int) : (iL l).set i (.int x) = iL (l.set i x) := by unfold iL; rw [List.map_set]
section
variable {P : Program} {w : World} {K : PySem.W.Frag} {mg : Str → Option Value} {base : Heap} {C N : Addr}
end
theorem map_split {α : Type} {g : α → D} {ns : List α} {pre post : List D} {x : D} (h : ns.map g = pre ++ x :: post) : ∃ (p q : List α) (i : α), ns = p ++ i :: q ∧ pre = p.map g ∧ x = g i ∧ post = q.map g := by
  obtain ⟨p, r, e1, e2, e3⟩ := List.map_eq_append_iff.mp h
  obtain ⟨i, q, rfl, rfl, rfl⟩ := List.map_eq_cons_iff.mp e3
  exact ⟨p, q, i, e1, e2.symm, rfl, rfl⟩
section
variable {P : Program} {w : World} {K : PySem.W.Frag} {mg : Str → Option Value} {base : Heap} {C N : Addr}
end
end K38
end
section
set_option Elab.async false
set_option linter.all false
set_option maxRecDepth 100000
set_option maxHeartbeats 4000000
namespace K38
open PySem PySem.Spec PyProof.Rows L2 DL
section
variable {P : Program} {w : World} {K : PySem.W.Frag} {mg : Str → Option Value} {base : Heap}
abbrev s_draw : Stmt := top 46
theorem sc_draw : FnScope ["pen", "many", "cell", "digit", "blend"] ["pen", "many"] (defScope s_draw) := ⟨rfl, rfl, rfl, by decide +kernel, rfl, by decide +kernel, by decide +kernel⟩
theorem ok_draw {f : Addr} {fd : FuncData} (B : Bl mg) (F : Fun K "_law_draw" "_law_draw" s_draw f fd) : FnOk P w K mg base (L2.CX P w) 1 f fd ["pen", "many"] (lift K spDraw) := by
  refine draw_ok F sc_draw fun q l ns a d kk ff n ha hd hf h1 hn => ?_
  refine wb_cons (ws_pCount rfl (.inl rfl) rfl (we_bin (we_pCount rfl (.inl rfl) rfl (we_int (vo_add ⟨_, rfl, ?_⟩)))))
  refine wb_cut (fun Δ' => ∃ a d k f c2 c3 c4, Δ' = [some (.oK q penK (penD l ns a d k f)), some (.int n), c2, c3, c4] ∧ 0 ≤ a ∧ 0 ≤ d ∧ 0 ≤ f) ?_ ?_
  · refine ws_if (wt_pw (ww_and (wt_cmp (we_pDigits rfl (.inl rfl) rfl (we_int (vo_eqi ⟨_, rfl, if_b (fun h => ?_) (fun h => ?_)⟩))))))
    · refine ww_and1 (wt_cmp (we_pAt rfl (.inl rfl) rfl (we_of_wo (wo_callB rfl B.len boot_len (wa_cons (we_pCells rfl (.inl rfl) rfl (wa_nil (vc_lenA (vo_lt ⟨_, rfl, if_b (fun h2 => ?_) (fun h2 => ?_)⟩)))))))))
      · have hlt : a < (ns.length : Nat) := by simpa using h2
        obtain ⟨m, rfl⟩ := Int.eq_ofNat_of_zero_le ha
        have hm : m < ns.length := by omega
        refine wb_cons (ws_set 2 rfl (.inl rfl) (wo_ix (we_pCells rfl (.inl rfl) rfl (we_pAt rfl (.inl rfl) rfl (vi_lsA (atI_nat (iL_get (getD_get hm))) ?_)))))
        refine wb_cons (ws_pAt rfl (.inl rfl) rfl (we_bin (we_pAt rfl (.inl rfl) rfl (we_int (vo_add ⟨_, rfl, ?_⟩)))))
        refine wb_cons (ws_if (wt_cmp (we_var 2 rfl (.inl rfl) rfl rfl (we_bin (we_int (we_int (vo_pow (by decide) (vo_ge ⟨_, rfl, if_b (fun h3 => ?_) (fun h3 => ?_)⟩))))))))
        · have h3 : (10 : Int) ^ (18 : Int).toNat ≤ ns.getD m 0 := by simpa using h3
          refine wb_cons (ws_pDigits rfl (.inl rfl) rfl (we_bin (we_var 2 rfl (.inl rfl) rfl rfl (we_bin (we_int (we_int (vo_pow (by decide) (vo_sub ⟨_, rfl, ?_⟩))))))))
          exact wb_nil (wb_nil ⟨_, _, _, _, _, _, _, rfl, by omega, by omega, hf⟩)
        · refine wb_cons (ws_pFold rfl (.inl rfl) rfl (we_bin (we_of_wo (wo_callTy rfl B.int boot_int (wa_cons (we_bin (we_bin (we_pFold rfl (.inl rfl) rfl (we_int (vo_mul (.inr (by decide)) ?_)))))))))) 
          refine we_var 2 rfl (.inl rfl) rfl rfl (vo_add (wa_nil (vc_int (we_int (vo_mod (by decide) ⟨_, rfl, ?_⟩)))))
          exact wb_nil (wb_nil ⟨_, _, _, _, _, _, _, rfl, by omega, hd, Int.emod_nonneg _ (by decide)⟩)
      · exact wb_nil ⟨_, _, _, _, _, _, _, rfl, ha, hd, hf⟩
    · exact wb_nil ⟨_, _, _, _, _, _, _, rfl, ha, hd, hf⟩
  · intro Δ' ⟨a, d, k, f, c2, c3, c4, hI, ha, hd, hf⟩
    subst hI
    refine wb_cons (ws_if (wt_cmp (we_pDigits rfl (.inl rfl) rfl (we_int (vo_gt ⟨_, rfl, if_b (fun h => ?_) (fun h => ?_)⟩)))))
    · refine wb_cons (ws_set 3 rfl (.inl rfl) (wo_bin (we_of_wo (wo_callTy rfl B.int boot_int (wa_cons (we_pDigits rfl (.inl rfl) rfl (wa_nil (vc_int ?_))))))))
      refine we_var 1 rfl (.inl rfl) rfl rfl (vo_mod (by omega) ?_)
      refine wb_cons (ws_pDigits rfl (.inl rfl) rfl (we_bin (we_pDigits rfl (.inl rfl) rfl (we_var 1 rfl (.inl rfl) rfl rfl (vo_fdiv ⟨by omega, hn⟩ ⟨_, rfl, ?_⟩)))))
      refine wb_cons (ws_ret (wo_of_we (we_var 3 rfl (.inl rfl) rfl rfl ?_)))
      exact ⟨_, _, _, _, _, rfl, Int.emod_nonneg _ (by omega), Int.emod_lt_of_pos _ (by omega), rfl, ha, Int.ediv_nonneg hd (by omega), hf⟩
    · refine wb_nil (wb_cons (ws_set 4 rfl (.inl rfl) (wo_bin (we_of_wo (wo_callTy rfl B.int boot_int ?_)))))
      refine wa_cons (we_bin (we_bin (we_bin ?_)))
      refine we_pFold rfl (.inl rfl) rfl (we_int (vo_mul (.inr (by decide)) ?_))
      refine we_bin (we_pCount rfl (.inl rfl) rfl (we_int (vo_mul (.inr (by decide)) (vo_add ?_))))
      refine we_int (vo_add (wa_nil (vc_int (we_int (vo_mod (by decide) ?_)))))
      have b1 := Int.emod_nonneg (f * 48271 + k * 7919 + 13) (show (2147483647 : Int) ≠ 0 by decide)
      have b2 := Int.emod_lt_of_pos (f * 48271 + k * 7919 + 13) (show (0 : Int) < 2147483647 by decide)
      generalize (f * 48271 + k * 7919 + 13) % 2147483647 = b at *
      refine wb_cons (ws_set 4 rfl (.inl rfl) (wo_bin (we_of_wo (wo_callTy rfl B.int boot_int ?_))))
      refine wa_cons (we_bin (we_bin (we_bin ?_)))
      refine we_var 4 rfl (.inl rfl) rfl rfl (we_var 4 rfl (.inl rfl) rfl rfl (vo_mul (.inr ⟨by omega, by omega⟩) ?_))
      refine we_bin (we_int (we_var 4 rfl (.inl rfl) rfl rfl (vo_mul (.inl (by decide)) (vo_add ?_))))
      refine we_pCount rfl (.inl rfl) rfl (vo_add (wa_nil (vc_int (we_int (vo_mod (by decide) ?_)))))
      have b3 := Int.emod_nonneg (b * b + 31 * b + k) (show (2147483629 : Int) ≠ 0 by decide)
      have b4 := Int.emod_lt_of_pos (b * b + 31 * b + k) (show (0 : Int) < 2147483629 by decide)
      generalize (b * b + 31 * b + k) % 2147483629 = g at *
      refine wb_cons (ws_pFold rfl (.inl rfl) rfl (we_bin (we_of_wo (wo_callTy rfl B.int boot_int ?_))))
      refine wa_cons (we_bin (we_bin (we_var 4 rfl (.inl rfl) rfl rfl (we_int (vo_mul (.inr (by decide)) ?_)))))
      refine we_int (vo_add (wa_nil (vc_int (we_int (vo_mod (by decide) ⟨_, rfl, ?_⟩)))))
      refine wb_cons (ws_ret (wo_bin (we_of_wo (wo_callTy rfl B.int boot_int ?_))))
      refine wa_cons (we_bin (we_var 4 rfl (.inl rfl) rfl rfl (we_int (vo_fdiv (by decide) (wa_nil (vc_int ?_))))))
      refine we_var 1 rfl (.inl rfl) rfl rfl (vo_mod (by omega) ?_)
      exact ⟨_, _, _, _, _, rfl, Int.emod_nonneg _ (by omega), Int.emod_lt_of_pos _ (by omega), rfl, ha, hd, Int.emod_nonneg _ (by decide)⟩
end
def spPen : DSp := fun ds Q _ => ∃ ns, ds = [.scr ns] ∧ Q .pen
def spPickS : DSp := fun ds Q _ => ∃ x : Str, ds = [.pen, .str x] ∧ 1 ≤ x.length ∧ x.length ≤ 1000 ∧ ∀ k ∈ x.cps.toList, Q (.str ⟨#[k]⟩)
def spPickL : DSp := fun ds Q _ => ∃ l : List D, ds = [.pen, .lst l] ∧ 1 ≤ l.length ∧ l.length ≤ 1000 ∧ ∀ d ∈ l, Q d
theorem nat_of {r : Int} {n : Nat} (h0 : 0 ≤ r) (h : r < (n : Int)) : ∃ m : Nat, r = (m : Int) ∧ m < n := ⟨r.toNat, (Int.toNat_of_nonneg h0).symm, by omega⟩
section
variable {P : Program} {w : World} {K : PySem.W.Frag} {mg : Str → Option Value} {base : Heap}
abbrev s_pen : Stmt := top 45
abbrev s_pick : Stmt := top 47
theorem sc_pen : FnScope ["script", "fold", "cell"] ["script"] (defScope s_pen) := ⟨rfl, rfl, rfl, by decide +kernel, rfl, by decide +kernel, by decide +kernel⟩
theorem ok_pen {f : Addr} {fd : FuncData} (B : Bl mg) (F : Fun K "_law_pen" "_law_pen" s_pen f fd) : FnOk P w K mg base (L2.CX P w) 1 f fd ["script"] (lift K spPen) := by
  refine def_ok F sc_pen (fun ds Q E ⟨_, e, _⟩ => by rw [e]; rfl) fun ds Q E ⟨ns, e, q⟩ => ?_
  subst e
  refine wb_cons (ws_set 1 rfl (.inl rfl) (wo_of_we (we_int ?_)))
  refine wb_cons (ws_for [2] (wi_scr (we_var 0 rfl (.inl rfl) rfl rfl ⟨_, rfl, ?_⟩)))
  refine ⟨fun pre Δ' => ∃ (r : Int) (c3 : Option D), Δ' = [some (.scr ns), some (.int r), c3] ∧ 0 ≤ r, ⟨0, _, rfl, Int.le_refl _⟩, ?_, ?_⟩
  · intro pre d post Δ' hsp ⟨r, c3, hI, hr⟩
    subst hI
    obtain ⟨p, q2, i, rfl, rfl, rfl, rfl⟩ := iL_split hsp
    refine wg_name 2 rfl (.inl rfl) (by decide) ?_
    refine wb_cons (ws_set 1 rfl (.inl rfl) (wo_bin (we_of_wo (wo_callTy rfl B.int boot_int (wa_cons (we_bin (we_bin ?_)))))))
    refine we_var 1 rfl (.inl rfl) rfl rfl (we_int (vo_mul (.inr (by decide)) (we_var 2 rfl (.inl rfl) rfl rfl (vo_add (wa_nil (vc_int ?_))))))
    exact we_int (vo_mod (by decide) (wb_nil ⟨_, _, rfl, Int.emod_nonneg _ (by decide)⟩))
  · intro Δ' ⟨r, c3, hI, hr⟩
    subst hI
    show WB _ _ _ _
    refine wb_cons (ws_ret (wo_of_we (we_pen (we_of_wo (wo_callTy rfl B.list boot_list (wa_cons (we_var 0 rfl (.inl rfl) rfl rfl (wa_nil (vc_lstScr ⟨ns, rfl, ?_⟩)))))))))
    exact we_int ⟨_, rfl, Int.le_refl _, we_int ⟨_, rfl, Int.le_refl _, we_int ⟨_, rfl, we_var 1 rfl (.inl rfl) rfl rfl ⟨_, rfl, hr, q⟩⟩⟩⟩
theorem sc_pick : FnScope ["pen", "some"] ["pen", "some"] (defScope s_pick) := ⟨rfl, rfl, rfl, by decide +kernel, rfl, by decide +kernel, by decide +kernel⟩
theorem ok_pickS {f : Addr} {fd : FuncData} (B : Bl mg) (F : Fun K "_law_pick" "_law_pick" s_pick f fd) (d0 : Def P w K mg base 1 "_law_draw" spDraw) : FnOk P w K mg base (L2.CX P w) 2 f fd ["pen", "some"] (lift K spPickS) := by
  refine def_ok F sc_pick (fun ds Q E ⟨_, e, _⟩ => by rw [e]; rfl) fun ds Q E ⟨x, e, h1, h2, q⟩ => ?_
  subst e
  refine wb_cons (ws_ret (wo_ix (we_var 1 rfl (.inl rfl) rfl rfl ?_)))
  refine we_call d0 (Nat.le_of_ble_eq_true rfl) rfl (wa_cons (we_var 0 rfl (.inl rfl) rfl rfl (wa_cons (we_of_wo (wo_callB rfl B.len boot_len ?_)))))
  refine wa_cons (we_var 1 rfl (.inl rfl) rfl rfl (wa_nil (vc_lenS (sz (by omega)) (wa_nil ⟨_, rfl, by omega, by omega, fun r r0 r1 => ?_⟩))))
  obtain ⟨m, rfl, hm⟩ := nat_of r0 r1
  have hm' : m < x.cps.toList.length := by rw [Array.length_toList]; exact hm
  exact vi_str (sz (by omega)) (atI_nat (List.getElem?_eq_getElem hm')) (q _ (List.getElem_mem _))
theorem ok_pickL {f : Addr} {fd : FuncData} (B : Bl mg) (F : Fun K "_law_pick" "_law_pick" s_pick f fd) (d0 : Def P w K mg base 1 "_law_draw" spDraw) : FnOk P w K mg base (L2.CX P w) 2 f fd ["pen", "some"] (lift K spPickL) := by
  refine def_ok F sc_pick (fun ds Q E ⟨_, e, _⟩ => by rw [e]; rfl) fun ds Q E ⟨x, e, h1, h2, q⟩ => ?_
  subst e
  refine wb_cons (ws_ret (wo_ix (we_var 1 rfl (.inl rfl) rfl rfl ?_)))
  refine we_call d0 (Nat.le_of_ble_eq_true rfl) rfl (wa_cons (we_var 0 rfl (.inl rfl) rfl rfl (wa_cons (we_of_wo (wo_callB rfl B.len boot_len ?_)))))
  refine wa_cons (we_var 1 rfl (.inl rfl) rfl rfl (wa_nil (vc_lenL (wa_nil ⟨_, rfl, by omega, by omega, fun r r0 r1 => ?_⟩))))
  obtain ⟨m, rfl, hm⟩ := nat_of r0 r1
  exact vi_lst (atI_nat (List.getElem?_eq_getElem hm)) (q _ (List.getElem_mem _))
end
def nmB (l : List Nat) : Bool := match l with
  | [] => false
  | k :: r => lettersS.cps.toList.contains k && decide (r.length ≤ 11) && (k :: r).all fun z => signsS.cps.toList.contains z
theorem nmB_nm {x : Str} (h : nmB x.cps.toList = true) : IsNm x := by
  cases e : x.cps.toList with
  | nil => rw [e] at h; cases h
  | cons k r =>
    rw [e] at h
    unfold nmB at h
    simp only [Bool.and_eq_true, decide_eq_true_eq] at h
    obtain ⟨⟨h1, h2⟩, h3⟩ := h
    exact ⟨k, r, e, by simpa using h1, h2, fun z hz => by simpa using List.all_eq_true.mp h3 z hz⟩
def spName : DSp := fun ds Q _ => ds = [.pen] ∧ ∀ x, IsNm x → Q (.str x)
def spNames : DSp := fun ds Q _ => ∃ m : Nat, ds = [.pen, .int m] ∧ 1 ≤ m ∧ m ≤ 8 ∧ ∀ xs, NmsOk xs → xs.length = m → Q (.tup (sL xs))
theorem longs {m : Nat} (h : m < 6) : ∃ z : Nat, z ≤ 11 ∧ (iL [0, 0, 1, 2, 5, 11])[m]? = some (.int (z : Int)) := by
  match m, h with
  | 0, _ => exact ⟨0, by decide, rfl⟩
  | 1, _ => exact ⟨0, by decide, rfl⟩
  | 2, _ => exact ⟨1, by decide, rfl⟩
  | 3, _ => exact ⟨2, by decide, rfl⟩
  | 4, _ => exact ⟨5, by decide, rfl⟩
  | 5, _ => exact ⟨11, by decide, rfl⟩
def sg (k : Nat) : Str := ⟨#[k]⟩
theorem joinL_nil : ∀ (l : List Nat), TL.joinL [] (l.map fun k => [k]) = l
  | [] => rfl
  | [k] => rfl
  | k :: q :: r => by
    show [k] ++ ([] ++ TL.joinL [] ((q :: r).map fun k => [k])) = _
    rw [joinL_nil (q :: r)]; rfl
theorem join_sg (l : List Nat) : (Txt.join (Str.ofString "") (l.map sg)).cps.toList = l := by
  have h := TL.tl_join (Str.ofString "") (l.map sg)
  rw [TL.join_eq]
  have e : (TL.tl (Str.ofString "")) = [] := rfl
  rw [e, List.map_map] at h
  exact h.trans (joinL_nil l)
theorem sg_sum (l : List Nat) : ((l.map sg).map (·.length)).sum = l.length := by
  induction l with
  | nil => rfl
  | cons k l ih => rw [List.map_cons, List.map_cons, List.sum_cons, ih, List.length_cons]; show 1 + _ = _; omega
theorem app_list (x y : Str) : (x ++ y).cps.toList = x.cps.toList ++ y.cps.toList := TL.tl_append x y
theorem str_len (x : Str) : x.length = x.cps.toList.length := by rw [Array.length_toList]; rfl
theorem letters_signs : ∀ k ∈ lettersS.cps.toList, k ∈ signsS.cps.toList := by
  have h : (lettersS.cps.toList.all fun k => signsS.cps.toList.contains k) = true := by decide +kernel
  intro k hk
  simpa using List.all_eq_true.mp h k hk
theorem IsNm.zero {x : Str} (h : IsNm x) (hl : x.length ≤ 11) : IsNm (x ++ Str.ofString "0") := by
  obtain ⟨k, r, e, h1, h2, h3⟩ := h.ex
  have hl2 := str_len x
  rw [e, List.length_cons] at hl2
  refine ⟨k, r ++ [48], ?_, h1, ?_, ?_⟩
  · rw [app_list, e]; rfl
  · rw [List.length_append, List.length_singleton]; omega
  · intro z hz
    rw [← List.cons_append, List.mem_append, List.mem_singleton] at hz
    rcases hz with hz | rfl
    · exact h3 z hz
    · show (48 : Nat) ∈ signsS.cps.toList
      have : (signsS.cps.toList.contains 48) = true := by decide +kernel
      simpa using this
theorem zq_nm {m : Nat} (h : m < 8) : IsNm (Str.ofString "z" ++ Str.ofString (toString (m : Int)) ++ Str.ofString "q") ∧ (Str.ofString "z" ++ Str.ofString (toString (m : Int)) ++ Str.ofString "q").length = 3 := by
  match m, h with
  | 0, _ => exact ⟨nmB_nm (by decide +kernel), by decide +kernel⟩
  | 1, _ => exact ⟨nmB_nm (by decide +kernel), by decide +kernel⟩
  | 2, _ => exact ⟨nmB_nm (by decide +kernel), by decide +kernel⟩
  | 3, _ => exact ⟨nmB_nm (by decide +kernel), by decide +kernel⟩
  | 4, _ => exact ⟨nmB_nm (by decide +kernel), by decide +kernel⟩
  | 5, _ => exact ⟨nmB_nm (by decide +kernel), by decide +kernel⟩
  | 6, _ => exact ⟨nmB_nm (by decide +kernel), by decide +kernel⟩
  | 7, _ => exact ⟨nmB_nm (by decide +kernel), by decide +kernel⟩
def longer (xs : List Str) (n : Nat) : Nat := (xs.filter fun y => decide (n ≤ y.length)).length
theorem longer_le (xs : List Str) (n : Nat) : longer xs n ≤ xs.length := List.length_filter_le ..
theorem longer_mono (n : Nat) : ∀ (xs : List Str), longer xs (n + 1) ≤ longer xs n
  | [] => Nat.le_refl _
  | z :: zs => by
    have ih := longer_mono n zs
    unfold longer at ih ⊢
    by_cases c1 : n + 1 ≤ z.length
    · rw [List.filter_cons_of_pos (by simpa using c1), List.filter_cons_of_pos (by simp; omega)]
      simp only [List.length_cons]
      omega
    · rw [List.filter_cons_of_neg (by simpa using c1)]
      by_cases c2 : n ≤ z.length
      · rw [List.filter_cons_of_pos (by simpa using c2), List.length_cons]; omega
      · rw [List.filter_cons_of_neg (by simpa using c2)]; exact ih
theorem longer_lt : ∀ {xs : List Str} {x : Str}, x ∈ xs → longer xs (x.length + 1) + 1 ≤ longer xs x.length
  | y :: xs, x, h => by
    have mono := longer_mono x.length xs
    rcases List.mem_cons.mp h with e | h'
    · subst e
      unfold longer at mono ⊢
      rw [List.filter_cons_of_neg (by simp), List.filter_cons_of_pos (by simp), List.length_cons]
      omega
    · have ih := longer_lt h'
      unfold longer at ih ⊢
      by_cases c1 : x.length + 1 ≤ y.length
      · rw [List.filter_cons_of_pos (by simpa using c1), List.filter_cons_of_pos (by simp; omega)]
        simp only [List.length_cons]
        omega
      · rw [List.filter_cons_of_neg (by simpa using c1)]
        by_cases c2 : x.length ≤ y.length
        · rw [List.filter_cons_of_pos (by simpa using c2), List.length_cons]; omega
        · rw [List.filter_cons_of_neg (by simpa using c2)]; exact ih
end K38
end
section
set_option Elab.async false
set_option linter.all false
set_option maxRecDepth 100000
set_option maxHeartbeats 4000000
namespace K38
open PySem PySem.Spec PyProof.Rows L2 DL
theorem sq_self {d : D} {l : List D} (h : d = .lst l) : Sq d l := by subst h; exact .lst
section
variable {P : Program} {w : World} {K : PySem.W.Frag} {mg : Str → Option Value} {base : Heap}
abbrev s_name : Stmt := top 50
abbrev s_names : Stmt := top 51
theorem sc_name : FnScope ["pen", "letters", "signs", "long", "lap"] ["pen"] (defScope s_name) := ⟨rfl, rfl, rfl, by decide +kernel, rfl, by decide +kernel, by decide +kernel⟩
theorem ok_name {f : Addr} {fd : FuncData} (B : Bl mg) (F : Fun K "_law_name" "_law_name" s_name f fd) (d0 : Def P w K mg base 1 "_law_draw" spDraw) (d1 : Def P w K mg base 2 "_law_pick" spPickS) : FnOk P w K mg base (L2.CX P w) 3 f fd ["pen"] (lift K spName) := by
  refine def_ok F sc_name (fun ds Q E ⟨e, _⟩ => by rw [e]; rfl) fun ds Q E ⟨e, q⟩ => ?_
  subst e
  refine wb_cons (ws_unpackS [1, 2] (we_tup (wa_cons (we_str (wa_cons (we_str (wa_nil ⟨sz (Nat.le_of_ble_eq_true rfl), ?_⟩)))))) (fun env h => by cases env; cases h; rfl))
  refine wg_tup rfl (wgs_cons (wg_name 1 rfl (.inl rfl) (by decide) (wgs_cons (wg_name 2 rfl (.inr rfl) (by decide) (wgs_nil ?_)))))
  refine wb_cons (ws_set 3 rfl (.inl rfl) (wo_ix (we_lst ?_)))
  refine wa_cons (we_int (wa_cons (we_int (wa_cons (we_int (wa_cons (we_int (wa_cons (we_int (wa_cons (we_int (wa_nil ⟨sz (Nat.le_of_ble_eq_true rfl), ?_⟩))))))))))))
  refine we_call d0 (Nat.le_of_ble_eq_true rfl) rfl (wa_cons (we_var 0 rfl (.inr (.inl rfl)) rfl rfl (wa_cons (we_int (wa_nil ⟨_, rfl, by decide, by decide, fun r r0 r1 => ?_⟩)))))
  obtain ⟨m, rfl, hm⟩ := nat_of (n := 6) r0 r1
  obtain ⟨z, hz, ez⟩ := longs hm
  refine vi_lst (atI_nat ez) ?_
  refine wb_cons (ws_ret (wo_bin (we_call d1 (Nat.le_of_ble_eq_true rfl) rfl ?_)))
  refine wa_cons (we_var 0 rfl (.inr (.inl rfl)) rfl rfl (wa_cons (we_var 1 rfl (.inl rfl) rfl rfl (wa_nil ⟨lettersS, rfl, by decide +kernel, by decide +kernel, fun k hk => ?_⟩))))
  refine we_join (we_str ⟨_, rfl, we_lc [("lap", 4)] (by dsimp only [Cf.blk]; decide +kernel) (wi_range1 rfl B.range (we_var 3 rfl (.inl rfl) rfl rfl ⟨_, rfl, by omega, ?_⟩))⟩)
  rw [Int.toNat_natCast]
  refine ⟨by rw [rng_len]; exact sz (by omega), fun pre acc => ∃ l : List Nat, acc = (l.map sg).map D.str ∧ ∀ x ∈ l, x ∈ signsS.cps.toList, ⟨[], rfl, by simp⟩, ?_, ?_⟩
  · intro pre d post acc hsp hle ⟨l, hI, hl⟩
    obtain ⟨rfl, hlt⟩ := rng_split hsp
    refine wg_name 4 rfl (.inl rfl) (by decide) (we_call d1 (Nat.le_of_ble_eq_true rfl) rfl ?_)
    refine wa_cons (we_var 0 rfl (.inr (.inl rfl)) rfl rfl (wa_cons (we_var 2 rfl (.inr (.inl rfl)) rfl rfl (wa_nil ⟨signsS, rfl, by decide +kernel, by decide +kernel, fun j hj => ⟨l ++ [j], ?_, ?_⟩⟩))))
    · rw [hI, List.map_append, List.map_append]; rfl
    · intro x hx
      rw [List.mem_append, List.mem_singleton] at hx
      rcases hx with hx | rfl
      · exact hl x hx
      · exact hj
  · intro acc hle ⟨l, hI, hl⟩
    rw [rng_len] at hle
    have hll : l.length ≤ z := by rw [hI] at hle; simpa using hle
    refine ⟨l.map sg, sq_self (by rw [hI]), ?_, ?_⟩
    · rw [sg_sum, List.length_map]
      have e0 : (Str.ofString "").length = 0 := by decide +kernel
      rw [e0]; omega
    have hj := join_sg l
    generalize Txt.join (Str.ofString "") (l.map sg) = J at *
    have hJ := str_len J
    rw [hj] at hJ
    have hs : (sg k).cps.toList = [k] := rfl
    refine vo_addS (by rw [hJ]; show 1 + _ ≤ _; exact sz (by omega)) (q _ ⟨k, l, ?_, hk, by omega, ?_⟩)
    · rw [app_list, hj]; rfl
    · intro y hy
      rcases List.mem_cons.mp hy with rfl | hy
      · exact letters_signs _ hk
      · exact hl y hy
end
theorem log_small {m : Nat} (h : m < 8) : ((m : Int).natAbs).log2 < 1920 := by
  match m, h with
  | 0, _ => decide
  | 1, _ => decide
  | 2, _ => decide
  | 3, _ => decide
  | 4, _ => decide
  | 5, _ => decide
  | 6, _ => decide
  | 7, _ => decide
theorem app_len (x y : Str) : (x ++ y).length = x.length + y.length := by rw [str_len, str_len x, str_len y, app_list, List.length_append]
section
variable {P : Program} {w : World} {K : PySem.W.Frag} {mg : Str → Option Value} {base : Heap} {C N : Addr}
theorem sc_names : FnScope ["pen", "many", "found", "lap", "name"] ["pen", "many"] (defScope s_names) := ⟨rfl, rfl, rfl, by decide +kernel, rfl, by decide +kernel, by decide +kernel⟩
theorem ok_names {f : Addr} {fd : FuncData} (B : Bl mg) (F : Fun K "_law_names" "_law_names" s_names f fd) (d0 : Def P w K mg base 3 "_law_name" spName) : FnOk P w K mg base (L2.CX P w) 4 f fd ["pen", "many"] (lift K spNames) := by
  refine def_ok F sc_names (fun ds Q E ⟨_, e, _⟩ => by rw [e]; rfl) fun ds Q E ⟨m, e, m1, m2, q⟩ => ?_
  subst e
  refine wb_cons (ws_set 2 rfl (.inl rfl) (wo_lst (wa_nil ⟨sz (Nat.le_of_ble_eq_true rfl), ?_⟩)))
  refine wb_cons (ws_for [3] (wi_range1 rfl B.range (we_var 1 rfl (.inl rfl) rfl rfl ⟨_, rfl, by omega, ?_⟩)))
  rw [Int.toNat_natCast]
  refine ⟨fun pre Δ' => ∃ (xs : List Str) (c3 c4 : Option D), Δ' = [some .pen, some (.int m), some (.ol (sL xs)), c3, c4] ∧ xs.length = pre.length ∧ xs.Nodup ∧ ∀ x ∈ xs, IsNm x, ⟨[], _, _, rfl, rfl, List.nodup_nil, by simp⟩, ?_, ?_⟩
  · intro pre d post Δ' hsp ⟨xs, c3, c4, hI, hl, nd, nm⟩
    subst hI
    obtain ⟨rfl, hlt⟩ := rng_split hsp
    rw [Int.zero_add]
    have hlen : (pre ++ [D.int (pre.length : Int)]).length = pre.length + 1 := by rw [List.length_append]; rfl
    dsimp only
    rw [hlen]
    generalize pre.length = i at *
    have hi8 : i < 8 := by omega
    refine wg_name 3 rfl (.inl rfl) (by decide) ?_
    refine wb_cons (ws_set 4 rfl (.inl rfl) (wo_call d0 (Nat.le_of_ble_eq_true rfl) rfl (wa_cons (we_var 0 rfl (.inl rfl) rfl rfl (wa_nil ⟨rfl, fun x hx => ?_⟩)))))
    refine wb_cut (fun Δ' => ∃ y, Δ' = [some .pen, some (.int m), some (.ol (sL xs)), some (.int i), some (.str y)] ∧ IsNm y ∧ (y ∉ xs ∨ y.length + longer xs y.length ≤ 3 + xs.length)) ?_ ?_
    · refine ws_if (wt_borrow 2 rfl rfl (wt_cmp (we_var 4 rfl (.inl rfl) rfl rfl (we_var 2 rfl (.inl rfl) rfl rfl (vo_inS (zs := xs) .lst ⟨_, rfl, if_b (fun h => ?_) (fun h => ?_)⟩)))))
      · obtain ⟨z1, z2⟩ := zq_nm hi8
        have z3 := z2
        rw [app_len, app_len] at z3
        refine wb_cons (ws_set 4 rfl (.inl rfl) (wo_bin (we_bin (we_str (we_of_wo (wo_callTy rfl B.str boot_str (wa_cons (we_var 3 rfl (.inl rfl) rfl rfl (wa_nil (vc_str (log_small hi8) ?_))))))))))
        refine vo_addS (sz (by omega)) (we_str (vo_addS (sz (by rw [app_len]; omega)) (wb_nil ⟨_, rfl, z1, .inr ?_⟩)))
        have := longer_le xs (Str.ofString "z" ++ Str.ofString (toString (i : Int)) ++ Str.ofString "q").length
        omega
      · have h' : x ∉ xs := by simpa using h
        exact wb_nil ⟨_, rfl, hx, .inl h'⟩
    · intro Δ' ⟨y, hI, hy, hor⟩
      subst hI
      refine wb_cons (ws_while (fun k Δ' => ∃ y, Δ' = [some .pen, some (.int m), some (.ol (sL xs)), some (.int i), some (.str y)] ∧ IsNm y ∧ (y ∉ xs ∨ y.length + longer xs y.length ≤ 3 + xs.length) ∧ k = longer xs y.length) _ ⟨y, rfl, hy, hor, rfl⟩ fun k Δ' ⟨y, hI, hy, hor, hk⟩ => ?_)
      subst hI
      have hyl := hy.len
      refine wt_borrow 2 rfl rfl (wt_cmp (we_var 4 rfl (.inl rfl) rfl rfl (we_var 2 rfl (.inl rfl) rfl rfl (vo_inS (zs := xs) .lst ⟨_, rfl, if_b (fun h => ?_) (fun h => ?_)⟩))))
      · have h' : y ∈ xs := by simpa using h
        have hb : y.length + longer xs y.length ≤ 3 + xs.length := by
          rcases hor with z | z
          · exact absurd h' z
          · exact z
        have h0 : (Str.ofString "0").length = 1 := by decide +kernel
        have hlo := longer_lt h'
        refine wb_cons (ws_set 4 rfl (.inl rfl) (wo_bin (we_var 4 rfl (.inl rfl) rfl rfl (we_str (vo_addS (sz (by omega)) ?_)))))
        have e1 : (y ++ Str.ofString "0").length = y.length + 1 := by rw [app_len, h0]
        exact wb_nil ⟨_, by rw [hk]; exact hlo, _, rfl, hy.zero (by omega), .inr (by rw [e1]; omega), by rw [e1]⟩
      · have h' : y ∉ xs := by simpa using h
        show WB _ _ _ _
        refine wb_cons (ws_app 2 rfl (.inl rfl) rfl (we_var 4 rfl (.inl rfl) rfl rfl ⟨by rw [sL_len, sizeLine_eq]; omega, wb_nil ⟨xs ++ [y], some (.int i), some (.str y), ?_, ?_, ?_, ?_⟩⟩))
        · unfold sL; rw [List.map_append]; rfl
        · rw [List.length_append, hl]; rfl
        · rw [List.nodup_append]
          refine ⟨nd, by simp, fun a ha b hb e => ?_⟩
          rw [List.mem_singleton] at hb
          exact h' (by rw [← hb, ← e]; exact ha)
        · intro z hz
          rw [List.mem_append, List.mem_singleton] at hz
          rcases hz with hz | rfl
          · exact nm z hz
          · exact hy
  · intro Δ' ⟨xs, c3, c4, hI, hl, nd, nm⟩
    rw [rng_len] at hl
    subst hI
    show WB _ _ _ _
    refine ws_freeze 2 rfl rfl ?_
    refine wb_cons (ws_ret (wo_callTy rfl B.tuple boot_tuple (wa_cons (we_var 2 rfl (.inl rfl) rfl rfl (wa_nil (vc_tupL ?_))))))
    exact q xs ⟨nm, nd, fun z => by rw [z] at hl; simp at hl; omega, by omega⟩ hl
end
end K38
end
section
set_option Elab.async false
set_option linter.all false
set_option maxRecDepth 100000
set_option maxHeartbeats 4000000
namespace K38
open PySem PySem.Spec PyProof.Rows L2 DL
/-! SG: the law's helpers. -/
def isOk : Nat → D → Prop
  | _, .int _ => True
  | _, .str _ => True
  | _, .bl _ => True
  | _, .non => True
  | n + 1, .tup l => l.length ≤ 1000000 ∧ ∀ e ∈ l, isOk n e
  | _, _ => False
def spIs (n : Nat) : DSp := fun ds Q _ => ∃ d, ds = [d, d] ∧ isOk n d ∧ Q (.bl true)
theorem isOk_int {n : Nat} {i : Int} : isOk n (.int i) := by cases n <;> exact trivial
theorem isOk_str {n : Nat} {i : Str} : isOk n (.str i) := by cases n <;> exact trivial
theorem isOk_bl {n : Nat} {i : Bool} : isOk n (.bl i) := by cases n <;> exact trivial
theorem isOk_non {n : Nat} : isOk n .non := by cases n <;> exact trivial
theorem isOk_iL {n : Nat} {l : List Int} (h : l.length ≤ 1000) : isOk (n + 1) (.tup (iL l)) :=
  ⟨by rw [iL_len]; omega, fun e he => by obtain ⟨x, _, rfl⟩ := List.mem_map.mp he; exact isOk_int⟩
section
variable {P : Program} {w : World} {K : PySem.W.Frag} {mg : Str → Option Value} {base : Heap}
abbrev s_is : Stmt := top 49
theorem sc_is : FnScope ["told", "due", "at"] ["told", "due"] (defScope s_is) := ⟨rfl, rfl, rfl, by decide +kernel, rfl, by decide +kernel, by decide +kernel⟩
theorem ok_is {f : Addr} {fd : FuncData} (n : Nat) (B : Bl mg) (F : Fun K "_law_is" "_law_is" s_is f fd) (rec_ : ∀ m, n = m + 1 → Def P w K mg base (m + 1) "_law_is" (spIs m)) : FnOk P w K mg base (L2.CX P w) (n + 1) f fd ["told", "due"] (lift K (spIs n)) := by
  refine def_ok F sc_is (fun ds Q E ⟨_, e, _⟩ => by rw [e]; rfl) fun ds Q E ⟨d, e, hd, q⟩ => ?_
  subst e
  cases d with
  | int i =>
    refine wb_cons (ws_if (wt_val (we_of_wo (wo_callB rfl B.isinstance boot_isinstance ?_))))
    refine wa_cons (we_var 1 rfl (.inr (.inl rfl)) rfl rfl (wa_cons (we_ty rfl B.tuple boot_tuple (wa_nil (vc_isi (T := "int") (k := false) rfl (by decide +kernel) ⟨_, rfl, if_f rfl ?_⟩)))))
    refine wb_nil (wb_cons (ws_if (wt_cmp (we_var 1 rfl (.inr (.inl rfl)) rfl rfl (we_non (vo_isN ⟨_, rfl, if_f rfl ?_⟩))))))
    refine wb_nil (wb_cons (ws_if (wt_cmp (we_var 1 rfl (.inr (.inl rfl)) rfl rfl (we_bl (vo_isB ⟨_, rfl, if_f rfl ?_⟩))))))
    refine wb_nil (wb_cons (ws_if (wt_cmp (we_var 1 rfl (.inr (.inl rfl)) rfl rfl (we_bl (vo_isB ⟨_, rfl, if_f rfl ?_⟩))))))
    refine wb_nil (wb_cons (ws_if (wt_val (we_of_wo (wo_callB rfl B.isinstance boot_isinstance ?_)))))
    refine wa_cons (we_var 1 rfl (.inr (.inl rfl)) rfl rfl (wa_cons (we_ty rfl B.str boot_str (wa_nil (vc_isi (T := "int") (k := false) rfl (by decide +kernel) ⟨_, rfl, if_f rfl ?_⟩)))))
    refine wb_nil (wb_cons (ws_ret (wo_of_we (we_and (we_of_wo (wo_callB rfl B.isinstance boot_isinstance ?_))))))
    refine wa_cons (we_var 0 rfl (.inr (.inl rfl)) rfl rfl (wa_cons (we_ty rfl B.int boot_int (wa_nil (vc_isi (T := "int") (k := true) rfl (by decide +kernel) ⟨_, rfl, if_t rfl ?_⟩)))))
    refine we_and (we_not (we_of_wo (wo_callB rfl B.isinstance boot_isinstance ?_)))
    refine wa_cons (we_var 0 rfl (.inr (.inl rfl)) rfl rfl (wa_cons (we_ty rfl B.bool boot_bool (wa_nil (vc_isi (T := "int") (k := false) rfl (by decide +kernel) ⟨_, rfl, _, rfl, if_t rfl ?_⟩)))))
    refine we_one (we_cmp (we_var 0 rfl (.inr (.inl rfl)) rfl rfl (we_var 1 rfl (.inr (.inl rfl)) rfl rfl (vo_eqi ?_))))
    rw [decide_eq_true rfl]; exact q
  | str x =>
    refine wb_cons (ws_if (wt_val (we_of_wo (wo_callB rfl B.isinstance boot_isinstance ?_))))
    refine wa_cons (we_var 1 rfl (.inr (.inl rfl)) rfl rfl (wa_cons (we_ty rfl B.tuple boot_tuple (wa_nil (vc_isi (T := "str") (k := false) rfl (by decide +kernel) ⟨_, rfl, if_f rfl ?_⟩)))))
    refine wb_nil (wb_cons (ws_if (wt_cmp (we_var 1 rfl (.inr (.inl rfl)) rfl rfl (we_non (vo_isN ⟨_, rfl, if_f rfl ?_⟩))))))
    refine wb_nil (wb_cons (ws_if (wt_cmp (we_var 1 rfl (.inr (.inl rfl)) rfl rfl (we_bl (vo_isB ⟨_, rfl, if_f rfl ?_⟩))))))
    refine wb_nil (wb_cons (ws_if (wt_cmp (we_var 1 rfl (.inr (.inl rfl)) rfl rfl (we_bl (vo_isB ⟨_, rfl, if_f rfl ?_⟩))))))
    refine wb_nil (wb_cons (ws_if (wt_val (we_of_wo (wo_callB rfl B.isinstance boot_isinstance ?_)))))
    refine wa_cons (we_var 1 rfl (.inr (.inl rfl)) rfl rfl (wa_cons (we_ty rfl B.str boot_str (wa_nil (vc_isi (T := "str") (k := true) rfl (by decide +kernel) ⟨_, rfl, if_t rfl ?_⟩)))))
    refine wb_cons (ws_ret (wo_of_we (we_and (we_of_wo (wo_callB rfl B.isinstance boot_isinstance ?_)))))
    refine wa_cons (we_var 0 rfl (.inr (.inl rfl)) rfl rfl (wa_cons (we_ty rfl B.str boot_str (wa_nil (vc_isi (T := "str") (k := true) rfl (by decide +kernel) ⟨_, rfl, if_t rfl ?_⟩)))))
    refine we_one (we_cmp (we_var 0 rfl (.inr (.inl rfl)) rfl rfl (we_var 1 rfl (.inr (.inl rfl)) rfl rfl (vo_eqS ?_))))
    rw [decide_eq_true rfl]; exact q
  | tup l =>
    cases n with
    | zero => exact hd.elim
    | succ n =>
      obtain ⟨hl, hall⟩ := hd
      have d0 := rec_ n rfl
      refine wb_cons (ws_if (wt_val (we_of_wo (wo_callB rfl B.isinstance boot_isinstance ?_))))
      refine wa_cons (we_var 1 rfl (.inr (.inl rfl)) rfl rfl (wa_cons (we_ty rfl B.tuple boot_tuple (wa_nil (vc_isi (T := "tuple") (k := true) rfl (by decide +kernel) ⟨_, rfl, if_t rfl ?_⟩)))))
      refine wb_cons (ws_if (wt_pw (ww_or (wt_not (wt_val (we_of_wo (wo_callB rfl B.isinstance boot_isinstance ?_)))))))
      refine wa_cons (we_var 0 rfl (.inr (.inl rfl)) rfl rfl (wa_cons (we_ty rfl B.tuple boot_tuple (wa_nil (vc_isi (T := "tuple") (k := true) rfl (by decide +kernel) ⟨_, rfl, if_f rfl ?_⟩)))))
      refine ww_or1 (wt_cmp (we_of_wo (wo_callB rfl B.len boot_len (wa_cons (we_var 0 rfl (.inr (.inl rfl)) rfl rfl (wa_nil (vc_lenT ?_)))))))
      refine we_of_wo (wo_callB rfl B.len boot_len (wa_cons (we_var 1 rfl (.inr (.inl rfl)) rfl rfl (wa_nil (vc_lenT (vo_nei ⟨_, rfl, if_f (by rw [decide_eq_true rfl]; rfl) ?_⟩))))))
      refine wb_nil (wb_cons (ws_ret (wo_of_we (we_cmp (we_lc [("at", 2)] (by dsimp only [Cf.blk]; decide +kernel) (wi_range1 rfl B.range ?_))))))
      refine we_of_wo (wo_callB rfl B.len boot_len (wa_cons (we_var 1 rfl (.inr (.inl rfl)) rfl rfl (wa_nil (vc_lenT ⟨_, rfl, ?_, ?_⟩)))))
      · omega
      rw [Int.toNat_natCast]
      refine ⟨by rw [rng_len]; exact sz (by omega), fun pre acc => acc = [], rfl, ?_, ?_⟩
      · intro pre d post acc hsp hle hI
        obtain ⟨rfl, hlt⟩ := rng_split hsp
        rw [Int.zero_add]
        refine wg_name 2 rfl (.inl rfl) (by decide) ?_
        have ha : atI l (pre.length : Int) = some (l[pre.length]'hlt) := atI_nat (List.getElem?_eq_getElem hlt)
        refine wt_not (wt_val (we_call d0 (Nat.le_refl _) rfl (wa_cons (we_ix (we_var 0 rfl (.inr (.inl rfl)) rfl rfl (we_var 2 rfl (.inl rfl) rfl rfl (vi_tup ha ?_)))))))
        have hnf : ∀ d : D, isOk n d → d.frz = d := fun d h => by cases d <;> first | rfl | (cases n <;> exact h.elim)
        rw [hnf _ (hall _ (List.getElem_mem _))]
        refine wa_cons (we_ix (we_var 1 rfl (.inr (.inl rfl)) rfl rfl (we_var 2 rfl (.inl rfl) rfl rfl (vi_tup ha ?_))))
        rw [hnf _ (hall _ (List.getElem_mem _))]
        exact wa_nil ⟨_, rfl, hall _ (List.getElem_mem _), _, rfl, if_f rfl hI⟩
      · intro acc hle hI
        subst hI
        refine we_lst (wa_nil ⟨sz (Nat.le_of_ble_eq_true rfl), vo_eqN 1 (OkD.lst (by simp)) (OkD.lst (by simp)) (by decide) fun k hk => ?_⟩)
        have e : k = true := hk.mpr rfl
        subst e; exact q
  | bl b =>
    refine wb_cons (ws_if (wt_val (we_of_wo (wo_callB rfl B.isinstance boot_isinstance ?_))))
    refine wa_cons (we_var 1 rfl (.inr (.inl rfl)) rfl rfl (wa_cons (we_ty rfl B.tuple boot_tuple (wa_nil (vc_isi (T := "bool") (k := false) rfl (by decide +kernel) ⟨_, rfl, if_f rfl ?_⟩)))))
    refine wb_nil (wb_cons (ws_if (wt_cmp (we_var 1 rfl (.inr (.inl rfl)) rfl rfl (we_non (vo_isN ⟨_, rfl, if_f rfl ?_⟩))))))
    cases b with
    | true =>
      refine wb_nil (wb_cons (ws_if (wt_cmp (we_var 1 rfl (.inr (.inl rfl)) rfl rfl (we_bl (vo_isB ⟨_, rfl, if_t rfl ?_⟩))))))
      exact wb_cons (ws_ret (wo_of_we (we_cmp (we_var 0 rfl (.inr (.inl rfl)) rfl rfl (we_bl (vo_isB q))))))
    | false =>
      refine wb_nil (wb_cons (ws_if (wt_cmp (we_var 1 rfl (.inr (.inl rfl)) rfl rfl (we_bl (vo_isB ⟨_, rfl, if_f rfl ?_⟩))))))
      refine wb_nil (wb_cons (ws_if (wt_cmp (we_var 1 rfl (.inr (.inl rfl)) rfl rfl (we_bl (vo_isB ⟨_, rfl, if_t rfl ?_⟩))))))
      exact wb_cons (ws_ret (wo_of_we (we_cmp (we_var 0 rfl (.inr (.inl rfl)) rfl rfl (we_bl (vo_isB q))))))
  | non =>
    refine wb_cons (ws_if (wt_val (we_of_wo (wo_callB rfl B.isinstance boot_isinstance ?_))))
    refine wa_cons (we_var 1 rfl (.inr (.inl rfl)) rfl rfl (wa_cons (we_ty rfl B.tuple boot_tuple (wa_nil (vc_isi (T := "NoneType") (k := false) rfl (by decide +kernel) ⟨_, rfl, if_f rfl ?_⟩)))))
    refine wb_nil (wb_cons (ws_if (wt_cmp (we_var 1 rfl (.inr (.inl rfl)) rfl rfl (we_non (vo_isN ⟨_, rfl, if_t rfl ?_⟩))))))
    exact wb_cons (ws_ret (wo_of_we (we_cmp (we_var 0 rfl (.inr (.inl rfl)) rfl rfl (we_non (vo_isN q))))))
  | _ => cases n <;> exact hd.elim
end
section
variable {P : Program} {w : World} {K : PySem.W.Frag} {mg : Str → Option Value} {base : Heap} {C F_ B_ S_ BR : Addr}
end
end K38
end
section
set_option Elab.async false
set_option linter.all false
set_option maxRecDepth 100000
set_option maxHeartbeats 4000000
namespace K38
open PySem PySem.Spec PyProof.Rows L2 DL
def iN (r : List Nat) : List D := r.map fun (n : Nat) => D.int (n : Int)
theorem iN_len (r : List Nat) : (iN r).length = r.length := List.length_map ..
def Cn.ch (n : Cn) (d : Nat) : Int := n.p.getD d 0 - n.t.getD d 0
def Cn.chs (n : Cn) : List Int := (List.range n.t.length).map n.ch
def wholeB : D → Option Bool
  | .int _ => some true
  | .bl _ => some false | .non => some false | .str _ => some false
  | _ => none
def idxB (m : Int) : D → Bool
  | .int i => decide (0 ≤ i ∧ i < m)
  | _ => false
theorem idx_nat {m : Nat} {l : List D} (h : ∀ d ∈ l, idxB m d = true) : ∃ r : List Nat, l = iN r ∧ ∀ x ∈ r, x < m := by
  induction l with
  | nil => exact ⟨[], rfl, by simp⟩
  | cons d l ih =>
    obtain ⟨r, rfl, hr⟩ := ih fun d hd => h d (List.mem_cons_of_mem _ hd)
    have hd := h d List.mem_cons_self
    cases d with
    | int i =>
      have hd : decide (0 ≤ i ∧ i < (m : Int)) = true := hd
      obtain ⟨h0, h1⟩ := of_decide_eq_true hd
      obtain ⟨k, rfl⟩ := Int.eq_ofNat_of_zero_le h0
      exact ⟨k :: r, rfl, fun x hx => by
        rcases List.mem_cons.mp hx with rfl | hx
        · omega
        · exact hr x hx⟩
    | _ => cases hd
def ntFs (C : Addr) (xs : List Str) (cs : List Cn) : List D := [.tup (sL xs), .tup (cs.map (Cn.d C)), .tup (cs.map fun n => .tup (iL n.chs))]
def spWholeG : DSp := fun ds Q _ => ∃ d k, ds = [d] ∧ wholeB d = some k ∧ Q (.bl k)
def spIndex : DSp := fun ds Q _ => ∃ d k m, ds = [d, .int m] ∧ wholeB d = some k ∧ Q (.bl (idxB m d))
def spNeedDeed (C N ND : Addr) : DSp := fun ds Q E => ∃ xs cs d k, ds = [.ins N nN (ntFs C xs cs), d] ∧ xs.length ≤ 100 ∧ wholeB d = some k ∧ (idxB xs.length d = true → Q .non) ∧ (idxB xs.length d = false → E ⟨ND, ["deed"], [d]⟩)
def spNeedRow (C N ND : Addr) : DSp := fun ds Q E => ∃ xs cs l r, ds = [.ins N nN (ntFs C xs cs), r] ∧ IsSeq r l ∧ xs.length ≤ 100 ∧ (∀ d ∈ l, wholeB d ≠ none) ∧ ((∀ d ∈ l, idxB xs.length d = true) → Q (.tup l)) ∧
  ∀ pre d post, l = pre ++ d :: post → (∀ e ∈ pre, idxB xs.length e = true) → idxB xs.length d = false → E ⟨ND, ["deed"], [d]⟩
def spChanges (C : Addr) : DSp := fun ds Q _ => ∃ (n : Cn), ds = [n.d C] ∧ n.t.length ≤ 100 ∧ n.p.length = n.t.length ∧ Q (.tup (iL n.chs))
def spNet (C N : Addr) : ISp := fun ds Q _ => ∃ (xs : List Str) (cs : List Cn), ds = [.tup (sL xs), .lst (cs.map (Cn.d C))] ∧ NmsOk xs ∧ (∀ n ∈ cs, n.good xs.length) ∧ cs.length ≤ 200000 ∧ Q nN (ntFs C xs cs)
theorem pairs_at {xs ys pre post : List D} {d : D} (h : pairs xs ys = pre ++ d :: post) : ∃ x y, xs[pre.length]? = some x ∧ ys[pre.length]? = some y ∧ d = .tup [x, y] := by
  have e : (pairs xs ys)[pre.length]? = some d := by rw [h, List.getElem?_append_right (Nat.le_refl _), Nat.sub_self]; rfl
  unfold pairs at e
  rw [List.getElem?_map] at e
  cases q : (xs.zip ys)[pre.length]? with
  | none => rw [q] at e; cases e
  | some p =>
    rw [q] at e; cases e
    obtain ⟨h1, h2⟩ := List.getElem?_zip_eq_some.mp q
    exact ⟨p.1, p.2, h1, h2, rfl⟩
theorem chs_get {n : Cn} {i : Nat} (h : i < n.t.length) : n.chs[i]? = some (n.ch i) := by
  unfold Cn.chs; rw [List.getElem?_map, List.getElem?_range h]; rfl
theorem chs_len (n : Cn) : n.chs.length = n.t.length := by unfold Cn.chs; rw [List.length_map, List.length_range]
theorem iL_at {l : List Int} {i : Nat} {x : D} (h : (iL l)[i]? = some x) : ∃ z, l[i]? = some z ∧ x = .int z := by
  unfold iL at h
  rw [List.getElem?_map] at h
  cases q : l[i]? with
  | none => rw [q] at h; cases h
  | some z => rw [q] at h; cases h; exact ⟨z, rfl, rfl⟩
theorem map_at {α : Type} {g : α → D} {ns : List α} {pre post : List D} {x : D} (h : ns.map g = pre ++ x :: post) : ∃ a, ns[pre.length]? = some a ∧ x = g a := by
  have e : (ns.map g)[pre.length]? = some x := by rw [h, List.getElem?_append_right (Nat.le_refl _), Nat.sub_self]; rfl
  rw [List.getElem?_map] at e
  cases q : ns[pre.length]? with
  | none => rw [q] at e; cases e
  | some z => rw [q] at e; cases e; exact ⟨z, rfl, rfl⟩
theorem take_at {α : Type} {l : List α} {i : Nat} {x : α} (h : l[i]? = some x) : l.take (i + 1) = l.take i ++ [x] := by
  rw [List.take_add_one, h]; rfl
theorem snoc_len {α : Type} (pre : List α) (x : α) : (pre ++ [x]).length = pre.length + 1 := by rw [List.length_append]; rfl
section
variable {P : Program} {w : World} {K : PySem.W.Frag} {mg : Str → Option Value} {base : Heap} {C N ND : Addr}
theorem ok_wholeG {f : Addr} {fd : FuncData} (B : Bl mg) (F : Fun K "is_whole" "is_whole" s_is_whole f fd) : FnOk P w K mg base (L2.CX P w) 1 f fd ["value"] (lift K spWholeG) := by
  refine def_ok F sc_is_whole (fun ds Q E ⟨d, k, e, _⟩ => by rw [e]; rfl) fun ds Q E ⟨d, k, e, hk, q⟩ => ?_
  subst e
  have no : d.own = false := by cases d <;> first | rfl | cases hk
  refine wb_cons (ws_ret (wo_of_we (we_and (we_of_wo (wo_callB rfl B.isinstance boot_isinstance ?_)))))
  refine wa_cons (we_var 0 rfl (.inl rfl) rfl no (wa_cons (we_ty rfl B.int boot_int (wa_nil ?_))))
  cases d with
  | int i =>
    cases hk
    refine vc_isi (T := "int") (k := true) rfl (by decide +kernel) ⟨_, rfl, if_t rfl ?_⟩
    refine we_one (we_not (we_of_wo (wo_callB rfl B.isinstance boot_isinstance ?_)))
    refine wa_cons (we_var 0 rfl (.inl rfl) rfl rfl (wa_cons (we_ty rfl B.bool boot_bool (wa_nil ?_))))
    exact vc_isi (T := "int") (k := false) rfl (by decide +kernel) ⟨_, rfl, q⟩
  | bl b =>
    cases hk
    refine vc_isi (T := "bool") (k := true) rfl (by decide +kernel) ⟨_, rfl, if_t rfl ?_⟩
    refine we_one (we_not (we_of_wo (wo_callB rfl B.isinstance boot_isinstance ?_)))
    refine wa_cons (we_var 0 rfl (.inl rfl) rfl rfl (wa_cons (we_ty rfl B.bool boot_bool (wa_nil ?_))))
    exact vc_isi (T := "bool") (k := true) rfl (by decide +kernel) ⟨_, rfl, q⟩
  | non =>
    cases hk
    exact vc_isi (T := "NoneType") (k := false) rfl (by decide +kernel) ⟨_, rfl, if_f rfl q⟩
  | str x =>
    cases hk
    exact vc_isi (T := "str") (k := false) rfl (by decide +kernel) ⟨_, rfl, if_f rfl q⟩
  | _ => cases hk
abbrev s_index : Stmt := top 20
theorem sc_index : FnScope ["value", "many"] ["value", "many"] (defScope s_index) := ⟨rfl, rfl, rfl, by decide +kernel, rfl, by decide +kernel, by decide +kernel⟩
theorem ok_index {f : Addr} {fd : FuncData} (F : Fun K "is_index" "is_index" s_index f fd) (d1 : Def P w K mg base 1 "is_whole" spWholeG) : FnOk P w K mg base (L2.CX P w) 2 f fd ["value", "many"] (lift K spIndex) := by
  refine def_ok F sc_index (fun ds Q E ⟨d, k, m, e, _⟩ => by rw [e]; rfl) fun ds Q E ⟨d, k, m, e, hk, q⟩ => ?_
  subst e
  have no : d.own = false := by cases d <;> first | rfl | cases hk
  refine wb_cons (ws_ret (wo_of_we (we_and (we_call d1 (Nat.le_of_ble_eq_true rfl) rfl (wa_cons (we_var 0 rfl (.inl rfl) rfl no (wa_nil ⟨d, k, rfl, hk, ?_⟩)))))))
  refine ⟨_, rfl, if_b (fun h => ?_) (fun h => ?_)⟩
  · subst h
    have hd : ∃ i, d = .int i := by cases d <;> first | exact ⟨_, rfl⟩ | cases hk
    obtain ⟨i, rfl⟩ := hd
    have q : Q (.bl (decide (0 ≤ i ∧ i < m))) := q
    refine we_one (we_chain (we_int (we_var 0 rfl (.inl rfl) rfl rfl (vo_le ⟨_, rfl, if_b (fun h => ?_) (fun h => ?_)⟩))))
    · have h := of_decide_eq_true h
      refine we_var 1 rfl (.inl rfl) rfl rfl (vo_lt ?_)
      rw [show decide (0 ≤ i ∧ i < m) = decide (i < m) from by simp [h]] at q
      exact q
    · have h := of_decide_eq_false h
      rw [decide_eq_false fun z => h z.1] at q
      exact q
  · subst h
    have e : idxB m d = false := by cases d <;> first | rfl | cases hk
    rw [e] at q; exact q
abbrev s_needDeed : Stmt := top 26
theorem sc_needDeed : FnScope ["behaviour", "deed"] ["behaviour", "deed"] (defScope s_needDeed) := ⟨rfl, rfl, rfl, by decide +kernel, rfl, by decide +kernel, by decide +kernel⟩
theorem ok_needDeed {f : Addr} {fd : FuncData} (B : Bl mg) (NF : CFx K mg "Net" N nN) (M : XMk P w K mg base "NoDeed" ND ["deed"]) (F : Fun K "need_deed" "need_deed" s_needDeed f fd) (d1 : Def P w K mg base 2 "is_index" spIndex) : FnOk P w K mg base (L2.CX P w) 4 f fd ["behaviour", "deed"] (lift K (spNeedDeed C N ND)) := by
  refine def_ok F sc_needDeed (fun ds Q E ⟨_, _, _, _, e, _⟩ => by rw [e]; rfl) fun ds Q E ⟨xs, cs, d, k, e, hx, hk, q1, q2⟩ => ?_
  subst e
  have no : d.own = false := by cases d <;> first | rfl | cases hk
  refine wb_cons (ws_if (wt_not (wt_val (we_call d1 (Nat.le_of_ble_eq_true rfl) rfl (wa_cons (we_var 1 rfl (.inl rfl) rfl no (wa_cons (we_of_wo (wo_callB rfl B.len boot_len ?_)))))))))
  refine wa_cons (we_fld (we_var 0 rfl (.inl rfl) rfl rfl ⟨N, nN, _, _, rfl, NF.cl.cl, NF.no _ (by simp [nN]), rfl, wa_nil (vc_lenT (wa_nil ⟨d, k, _, rfl, hk, _, rfl, ?_⟩))⟩))
  rw [sL_len]
  refine if_b (fun h => ?_) (fun h => ?_)
  · have h : idxB xs.length d = false := by simpa using h
    exact wb_cons (ws_raise M (Nat.le_of_ble_eq_true rfl) rfl (wa_cons (we_var 1 rfl (.inl rfl) rfl no (wa_nil ⟨rfl, q2 h⟩))))
  · have h : idxB xs.length d = true := by simpa using h
    exact wb_nil (wb_nil (q1 h))
abbrev s_needRow : Stmt := top 27
theorem sc_needRow : FnScope ["behaviour", "run", "deed"] ["behaviour", "run"] (defScope s_needRow) := ⟨rfl, rfl, rfl, by decide +kernel, rfl, by decide +kernel, by decide +kernel⟩
theorem ok_needRow {f : Addr} {fd : FuncData} (B : Bl mg) (F : Fun K "need_row" "need_row" s_needRow f fd) (d1 : Def P w K mg base 4 "need_deed" (spNeedDeed C N ND)) : FnOk P w K mg base (L2.CX P w) 5 f fd ["behaviour", "run"] (lift K (spNeedRow C N ND)) := by
  refine def_ok F sc_needRow (fun ds Q E ⟨_, _, _, _, e, _⟩ => by rw [e]; rfl) fun ds Q E ⟨xs, cs, l, r, e, hs, hx, hw, q1, q2⟩ => ?_
  subst e
  refine wb_cons (ws_for [2] (wi_seq 1 rfl (.inl rfl) rfl hs ?_))
  refine ⟨fun pre Δ' => ∃ a2, Δ' = [some (.ins N nN (ntFs C xs cs)), some r, a2] ∧ ∀ e ∈ pre, idxB xs.length e = true, ⟨_, rfl, by simp⟩, ?_, ?_⟩
  · intro pre d post Δ' hsp ⟨a2, hI, hp⟩
    subst hI
    obtain ⟨k, hk⟩ := Option.ne_none_iff_exists'.mp (hw d (by rw [hsp]; simp))
    have no : d.own = false := by cases d <;> first | rfl | cases hk
    refine wg_name 2 rfl (.inl rfl) (by decide) ?_
    refine wb_cons (ws_expr (Q := fun _ => True) (wo_call d1 (Nat.le_of_ble_eq_true rfl) rfl (wa_cons (we_var 0 rfl (.inl rfl) rfl rfl (wa_cons (we_var 2 rfl (.inl rfl) rfl no (wa_nil ?_)))))))
    refine ⟨xs, cs, d, k, rfl, hx, hk, fun h => ?_, fun h => q2 pre d post hsp hp h⟩
    refine wb_nil ⟨_, rfl, fun e he => ?_⟩
    rw [List.mem_append, List.mem_singleton] at he
    rcases he with he | rfl
    · exact hp e he
    · exact h
  · intro Δ' ⟨a2, hI, hp⟩
    subst hI
    show WB _ _ _ _
    exact wb_cons (ws_ret (wo_callTy rfl B.tuple boot_tuple (wa_cons (we_var 1 rfl (.inl rfl) rfl hs.own (wa_nil (vc_tupS hs (q1 hp)))))))
abbrev s_changes : Stmt := top 31
theorem sc_changes : FnScope ["counter", "take", "put"] ["counter"] (defScope s_changes) := ⟨rfl, rfl, rfl, by decide +kernel, rfl, by decide +kernel, by decide +kernel⟩
theorem ok_changes {f : Addr} {fd : FuncData} (B : Bl mg) (CF : CFx K mg "Counter" C cN) (F : Fun K "changes" "changes" s_changes f fd) : FnOk P w K mg base (L2.CX P w) 1 f fd ["counter"] (lift K (spChanges C)) := by
  refine def_ok F sc_changes (fun ds Q E ⟨n, e, _⟩ => by rw [e]; rfl) fun ds Q E ⟨n, e, hl, hp, q⟩ => ?_
  subst e
  refine wb_cons (ws_ret (wo_callTy rfl B.tuple boot_tuple (wa_cons (we_lc [("take", 1), ("put", 2)] (by dsimp only [Cf.blk]; decide +kernel) (wi_zip rfl B.zip (we_fld ?_))))))
  refine we_var 0 rfl (.inl rfl) rfl rfl ⟨C, cN, _, _, rfl, CF.cl.cl, CF.no _ (by simp [cN]), rfl, we_fld ?_⟩
  refine we_var 0 rfl (.inl rfl) rfl rfl ⟨C, cN, _, _, rfl, CF.cl.cl, CF.no _ (by simp [cN]), rfl, .inr ⟨_, _, rfl, rfl, ?_⟩⟩
  have hpl : (pairs (iL n.t) (iL n.p)).length = n.t.length := by unfold pairs; rw [List.length_map, List.length_zip, iL_len, iL_len, hp]; exact Nat.min_self _
  refine ⟨by rw [hpl]; exact sz (by omega), fun pre acc => acc = iL (n.chs.take pre.length), rfl, ?_, ?_⟩
  · intro pre d post acc hsp hle hI
    obtain ⟨x, y, hx, hy, rfl⟩ := pairs_at hsp
    obtain ⟨x, hx2, rfl⟩ := iL_at hx
    obtain ⟨y, hy2, rfl⟩ := iL_at hy
    have hlt : pre.length < n.t.length := (List.getElem?_eq_some_iff.mp hx2).1
    refine wg_tup rfl (wgs_cons (wg_name 1 rfl (.inl rfl) (by decide) (wgs_cons (wg_name 2 rfl (.inl rfl) (by decide) (wgs_nil ?_)))))
    refine we_bin (we_var 2 rfl (.inl rfl) rfl rfl (we_var 1 rfl (.inl rfl) rfl rfl (vo_sub ?_)))
    show _ = _
    rw [snoc_len, take_at (chs_get hlt), hI]
    have e : n.ch pre.length = y - x := by unfold Cn.ch; rw [List.getD_eq_getElem?_getD, List.getD_eq_getElem?_getD, hx2, hy2]; rfl
    rw [e]
    unfold iL; rw [List.map_append]; rfl
  · intro acc hle hI
    rw [hpl, List.take_of_length_le (by rw [chs_len]; exact Nat.le_refl _)] at hI
    subst hI
    exact wa_nil (vc_tupL q)
abbrev s_ninit : Stmt := inClass (top 33) 0
theorem sc_ninit : FnScope ["self", "deeds", "counters", "name", "counter"] ["self", "deeds", "counters"] (defScope s_ninit) := ⟨rfl, rfl, rfl, by decide +kernel, rfl, by decide +kernel, by decide +kernel⟩
theorem ok_ninit {f : Addr} {fd : FuncData} (B : Bl mg) (CF : CFx K mg "Net" N nN) (F : Fun K "__init__" "Net.__init__" s_ninit f fd) (d0 : Def P w K mg base 2 "is_short_of_names" spShort) (d1 : Def P w K mg base 4 "is_one_for" (spOneFor C)) (d2 : Def P w K mg base 1 "changes" (spChanges C)) : FnOk P w K mg base (L2.CX P w) 5 f fd ["self", "deeds", "counters"] (liftI K N (spNet C N)) := by
  refine init_ok F sc_ninit (fun ds Q E ⟨xs, cs, e, _⟩ => by rw [e]; rfl) fun a ds Q E ⟨xs, cs, e, nm, hg, hl, q⟩ => ?_
  subst e
  have hln := nm.ln
  refine wb_cons (ws_if (wt_val (we_call d0 (Nat.le_of_ble_eq_true rfl) rfl (wa_cons (we_var 1 rfl (.inl rfl) rfl rfl (wa_nil ⟨xs, rfl, nm, _, rfl, if_f rfl ?_⟩))))))
  refine wb_nil (wb_cons (ws_fld 0 rfl (.inr (.inl rfl)) rfl CF.cl.cl (CF.no _ (by simp [nN])) rfl (by decide) (we_of_wo (wo_callTy rfl B.tuple boot_tuple (wa_cons (we_lc [("name", 3)] (by dsimp only [Cf.blk]; decide +kernel) (wi_tup (we_var 1 rfl (.inl rfl) rfl rfl ⟨_, rfl, ?_, fun pre acc => acc = pre, rfl, ?_, ?_⟩))))))))
  · rw [sL_len]; exact sz (by omega)
  · intro pre x post acc hsp hle hI
    obtain ⟨p, q2, i, rfl, rfl, rfl, rfl⟩ := sL_split hsp
    subst hI
    exact wg_name 3 rfl (.inl rfl) (by decide) (we_of_wo (wo_callTy rfl B.str boot_str (wa_cons (we_var 3 rfl (.inl rfl) rfl rfl (wa_nil (vc_strS rfl))))))
  intro acc hle hI
  subst hI
  refine wa_nil (vc_tupL ?_)
  refine wb_cons (ws_if (wt_not (wt_val (we_of_wo (wo_callB rfl B.isinstance boot_isinstance ?_)))))
  refine wa_cons (we_var 2 rfl (.inl rfl) rfl rfl (wa_cons (we_tup (wa_cons (we_ty rfl B.list boot_list (wa_cons (we_ty rfl B.tuple boot_tuple (wa_nil ⟨sz (Nat.le_of_ble_eq_true rfl), wa_nil ?_⟩)))))))) 
  refine vc_isiT (T := "list") ["list", "tuple"] (k := true) rfl (by decide +kernel) ⟨_, rfl, if_f rfl ?_⟩
  refine wb_nil (wb_cons (ws_if (wt_not (wt_val (we_of_wo (wo_callB rfl B.all boot_all (wa_cons (we_lc [("counter", 4)] (by dsimp only [Cf.blk]; decide +kernel) (wi_lst (we_var 2 rfl (.inl rfl) rfl rfl ⟨_, rfl, ?_, fun pre acc => acc = List.replicate pre.length (.bl true), rfl, ?_, ?_⟩))))))))))
  · rw [List.length_map]; exact sz (by omega)
  · intro pre x post acc hsp hle hI
    obtain ⟨p, q2, i, rfl, rfl, rfl, rfl⟩ := map_split hsp
    subst hI
    refine wg_name 4 rfl (.inl rfl) (by decide) (we_call d1 (Nat.le_of_ble_eq_true rfl) rfl (wa_cons (we_var 4 rfl (.inl rfl) rfl rfl (wa_cons (we_of_wo (wo_callB rfl B.len boot_len (wa_cons (we_fldO 0 rfl (.inr (.inl rfl)) rfl CF.cl.cl (CF.no _ (by simp [nN])) rfl (wa_nil (vc_lenT (wa_nil ⟨i, xs.length, ?_, hg i (by simp), hln, ?_⟩)))))))))))
    · rw [sL_len]; rfl
    show _ = _
    rw [List.length_append]; exact (List.replicate_succ' ..).symm
  intro acc hle hI
  subst hI
  rw [rep_bl]
  refine wa_nil (vc_all ⟨_, rfl, if_f (by rw [all_true]; rfl) ?_⟩)
  refine wb_nil (wb_cons (ws_fld 0 rfl (.inr (.inl rfl)) rfl CF.cl.cl (CF.no _ (by simp [nN])) rfl (by decide) (we_of_wo (wo_callTy rfl B.tuple boot_tuple (wa_cons (we_var 2 rfl (.inl rfl) rfl rfl (wa_nil (vc_tupL ?_))))))))
  refine wb_cons (ws_fld 0 rfl (.inr (.inl rfl)) rfl CF.cl.cl (CF.no _ (by simp [nN])) rfl (by decide) (we_of_wo (wo_callTy rfl B.tuple boot_tuple (wa_cons (we_lc [("counter", 4)] (by dsimp only [Cf.blk]; decide +kernel) (wi_tup (we_fldO 0 rfl (.inr (.inl rfl)) rfl CF.cl.cl (CF.no _ (by simp [nN])) rfl ⟨_, rfl, ?_, fun pre acc => acc = (cs.take pre.length).map fun n => .tup (iL n.chs), rfl, ?_, ?_⟩)))))))
  · rw [List.length_map]; exact sz (by omega)
  · intro pre x post acc hsp hle hI
    obtain ⟨n, hn, rfl⟩ := map_at hsp
    have g := hg n (List.mem_of_getElem? hn)
    refine wg_name 4 rfl (.inl rfl) (by decide) (we_call d2 (Nat.le_of_ble_eq_true rfl) rfl (wa_cons (we_var 4 rfl (.inl rfl) rfl rfl (wa_nil ⟨n, rfl, by rw [g.tl]; exact hln, by rw [g.tl, g.pl], ?_⟩))))
    show _ = _
    rw [snoc_len, take_at hn, List.map_append, hI]; rfl
  intro acc hle hI
  rw [List.length_map, List.take_of_length_le (Nat.le_refl _)] at hI
  subst hI
  exact wa_nil (vc_tupL (wb_nil ⟨_, _, rfl, q⟩))
end
/-! NP: the plain law of k39: needs, by walking and by halving. -/
def fits (ps : List (Cn × Int)) (d : Nat) : Bool := ps.all fun p => decide (p.1.t.getD d 0 ≤ p.2)
def moved (ps : List (Cn × Int)) (d : Nat) : List (Cn × Int) := ps.map fun p => (p.1, p.2 + p.1.ch d)
def wP (o : Option (List (Cn × Int))) (d : Nat) : Option (List (Cn × Int)) := match o with
  | none => none
  | some ps => if fits ps d = true then some (moved ps d) else none
theorem wP_none (r : List Nat) : r.foldl wP none = none := by
  induction r with
  | nil => rfl
  | cons d r ih => exact ih
theorem moved_fst (ps : List (Cn × Int)) (d : Nat) : (moved ps d).map (·.1) = ps.map (·.1) := by
  unfold moved; rw [List.map_map]; rfl
theorem wP_fst {r : List Nat} : ∀ {ps qs : List (Cn × Int)}, r.foldl wP (some ps) = some qs → qs.map (·.1) = ps.map (·.1) := by
  induction r with
  | nil => intro ps qs h; cases h; rfl
  | cons d r ih =>
    intro ps qs h
    rw [List.foldl_cons] at h
    by_cases hf : fits ps d = true
    · have e : wP (some ps) d = some (moved ps d) := by show (if _ then _ else _) = _; rw [if_pos hf]
      rw [e] at h
      rw [ih h, moved_fst]
    · have e : wP (some ps) d = none := by show (if _ then _ else _) = _; rw [if_neg hf]
      rw [e, wP_none] at h; cases h
theorem iN_split {r : List Nat} {pre post : List D} {x : D} (h : iN r = pre ++ x :: post) : ∃ d : Nat, r[pre.length]? = some d ∧ x = .int (d : Int) := map_at h
section
variable {P : Program} {w : World} {K : PySem.W.Frag} {mg : Str → Option Value} {base : Heap} {C N ND : Addr}
end
end K38
end
section
set_option Elab.async false
set_option linter.all false
set_option maxRecDepth 100000
set_option maxHeartbeats 4000000
namespace K38
open PySem PySem.Spec PyProof.Rows L2 DL
def netD (xs : List Str) (cs : List Cn) : D := .tup [.tup (sL xs), .tup (cs.map Cn.tp)]
def stI (ps : List (Cn × Int)) : List Int := ps.map (·.2)
def csP (ps : List (Cn × Int)) : List Cn := ps.map (·.1)
def stD : Option (List (Cn × Int)) → D
  | none => .non
  | some ps => .tup (iL (stI ps))
theorem stD_own (o : Option (List (Cn × Int))) : (stD o).own = false := by cases o <;> rfl
def spCan : DSp := fun ds Q _ => ∃ xs ps d m, ds = [netD xs (csP ps), .tup (iL (stI ps)), .int ((d : Nat) : Int)] ∧ ps.length ≤ 1000 ∧ (∀ p ∈ ps, p.1.good m) ∧ d < m ∧ Q (.bl (fits ps d))
def spDone : DSp := fun ds Q _ => ∃ xs ps d m, ds = [netD xs (csP ps), .tup (iL (stI ps)), .int ((d : Nat) : Int)] ∧ ps.length ≤ 1000 ∧ (∀ p ∈ ps, p.1.good m) ∧ d < m ∧ Q (.tup (iL (stI (moved ps d))))
def spWalked : DSp := fun ds Q _ => ∃ xs ps r m, ds = [netD xs (csP ps), .tup (iL (stI ps)), .tup (iN r)] ∧ ps.length ≤ 1000 ∧ (∀ p ∈ ps, p.1.good m) ∧ (∀ x ∈ r, x < m) ∧ Q (stD (r.foldl wP (some ps)))
def spDrawnC : DSp := fun ds Q _ => ∃ (m : Nat) (top : Int), ds = [.pen, .int m, .int top] ∧ m ≤ 100 ∧ 1 ≤ top ∧ top ≤ 1000000000000 ∧ ∀ n : Cn, n.good m → Q n.tp
def spLNet (C N : Addr) : DSp := fun ds Q _ => ∃ (xs : List Str) (cs : List Cn), ds = [netD xs cs] ∧ NmsOk xs ∧ (∀ n ∈ cs, n.good xs.length) ∧ cs.length ≤ 200000 ∧ Q (.ins N nN (ntFs C xs cs))
theorem ps_get {ps : List (Cn × Int)} {i : Nat} (h : i < ps.length) : atI ((csP ps).map Cn.tp) (i : Int) = some (ps[i].1.tp) ∧ atI (iL (stI ps)) (i : Int) = some (.int ps[i].2) := by
  constructor
  · refine atI_nat ?_
    unfold csP; rw [List.map_map, List.getElem?_map, List.getElem?_eq_getElem h]; rfl
  · refine atI_nat (iL_get ?_)
    unfold stI; rw [List.getElem?_map, List.getElem?_eq_getElem h]; rfl
theorem good_at {ps : List (Cn × Int)} {m d i : Nat} (h : i < ps.length) (g : ∀ p ∈ ps, p.1.good m) (hd : d < m) : d < ps[i].1.t.length ∧ d < ps[i].1.p.length := by
  have k := g _ (List.getElem_mem h)
  rw [k.tl, k.pl]; exact ⟨hd, hd⟩
def badT (ps : List (Cn × Int)) (d : Nat) : List Int := (ps.filter fun p => decide (p.2 < p.1.t.getD d 0)).map fun p => p.1.t.getD d 0
theorem badT_nil (ps : List (Cn × Int)) (d : Nat) : badT ps d = [] ↔ fits ps d = true := by
  unfold badT fits
  rw [List.map_eq_nil_iff, List.filter_eq_nil_iff, List.all_eq_true]
  constructor
  · intro h p hp
    have := h p hp
    simp only [decide_eq_true_eq] at this ⊢
    omega
  · intro h p hp
    have := h p hp
    simp only [decide_eq_true_eq] at this ⊢
    omega
section
variable {P : Program} {w : World} {K : PySem.W.Frag} {mg : Str → Option Value} {base : Heap} {C N ND : Addr}
abbrev s_net : Stmt := top 57
theorem sc_net : FnScope ["net", "row"] ["net"] (defScope s_net) := ⟨rfl, rfl, rfl, by decide +kernel, rfl, by decide +kernel, by decide +kernel⟩
theorem ok_net {f : Addr} {fd : FuncData} (F : Fun K "_law_net" "_law_net" s_net f fd) (kC : Mkr P w K mg base 3 "Counter" C spCounter) (kN : Mkr P w K mg base 5 "Net" N (spNet C N)) : FnOk P w K mg base (L2.CX P w) 7 f fd ["net"] (lift K (spLNet C N)) := by
  refine def_ok F sc_net (fun ds Q E ⟨_, _, e, _⟩ => by rw [e]; rfl) fun ds Q E ⟨xs, cs, e, nm, hg, hl, q⟩ => ?_
  subst e
  have hln := nm.ln
  refine wb_cons (ws_ret (wo_of_we (we_make kN (Nat.le_of_ble_eq_true rfl) rfl (wa_cons (we_ix (we_var 0 rfl (.inl rfl) rfl rfl (we_int (vi_tup (d := .tup (sL xs)) rfl ?_))))))))
  refine wa_cons (we_lc [("row", 1)] (by dsimp only [Cf.blk]; decide +kernel) (wi_tup (we_ix (we_var 0 rfl (.inl rfl) rfl rfl (we_int (vi_tup (d := .tup (cs.map Cn.tp)) rfl ⟨_, rfl, ?_, fun pre acc => acc = (cs.take pre.length).map (Cn.d C), rfl, ?_, ?_⟩))))))
  · rw [List.length_map]; exact sz (by omega)
  · intro pre d post acc hsp hle hI
    obtain ⟨n, hn, rfl⟩ := map_at hsp
    have g := hg n (List.mem_of_getElem? hn)
    dsimp only
    rw [snoc_len, take_at hn, List.map_append, hI]
    refine wg_name 1 rfl (.inl rfl) (by decide) (we_make kC (Nat.le_of_ble_eq_true rfl) rfl ?_)
    refine wa_cons (we_ix (we_var 1 rfl (.inl rfl) rfl rfl (we_int (vi_tup (d := .int n.f) rfl ?_))))
    refine wa_cons (we_ix (we_var 1 rfl (.inl rfl) rfl rfl (we_int (vi_tup (d := .tup (iL n.t)) rfl ?_))))
    refine wa_cons (we_ix (we_var 1 rfl (.inl rfl) rfl rfl (we_int (vi_tup (d := .tup (iL n.p)) rfl ?_))))
    exact wa_nil ⟨n, _, _, rfl, .inr rfl, .inr rfl, sz (by rw [g.tl]; omega), sz (by rw [g.pl]; omega), fun _ => rfl⟩
  · intro acc hle hI
    rw [List.length_map, List.take_of_length_le (Nat.le_refl _)] at hI
    subst hI
    exact wa_nil ⟨xs, cs, rfl, nm, hg, by omega, fun _ => q⟩
abbrev s_can : Stmt := top 53
theorem sc_can : FnScope ["net", "standing", "deed", "pairs", "at", "take", "value"] ["net", "standing", "deed"] (defScope s_can) := ⟨rfl, rfl, rfl, by decide +kernel, rfl, by decide +kernel, by decide +kernel⟩
theorem ok_can {f : Addr} {fd : FuncData} (B : Bl mg) (F : Fun K "_law_can" "_law_can" s_can f fd) : FnOk P w K mg base (L2.CX P w) 1 f fd ["net", "standing", "deed"] (lift K spCan) := by
  refine def_ok F sc_can (fun ds Q E ⟨_, _, _, _, e, _⟩ => by rw [e]; rfl) fun ds Q E ⟨xs, ps, d, m, e, hl, hg, hd, q⟩ => ?_
  subst e
  have hsl : (iL (stI ps)).length = ps.length := by rw [iL_len]; unfold stI; rw [List.length_map]
  refine wb_cons (ws_setLc 3 [("at", 4)] (by dsimp only [Cf.blk]; decide +kernel) rfl rfl (wi_range1 rfl B.range (we_of_wo (wo_callB rfl B.len boot_len ?_))))
  refine wa_cons (we_var 1 rfl (.inr (.inl rfl)) rfl rfl (wa_nil (vc_lenT ⟨_, rfl, by rw [hsl]; omega, ?_⟩)))
  rw [hsl, Int.toNat_natCast]
  refine ⟨by rw [rng_len]; exact sz (by omega), fun pre acc => acc = (ps.take pre.length).map fun p => D.tup [.int (p.1.t.getD d 0), .int p.2], rfl, ?_, ?_⟩
  · intro pre x post acc hsp hle hI
    obtain ⟨rfl, hlt⟩ := rng_split hsp
    rw [Int.zero_add]
    dsimp only
    rw [snoc_len, take_at (List.getElem?_eq_getElem hlt), List.map_append, hI]
    obtain ⟨g1, g2⟩ := ps_get hlt
    refine wg_name 4 rfl (.inl rfl) (by decide) (we_tup (wa_cons (we_ix (we_ix (we_ix (we_ix ?_))))))
    refine we_var 0 rfl (.inr (.inl rfl)) rfl rfl (we_int (vi_tup (d := .tup ((csP ps).map Cn.tp)) rfl ?_))
    refine we_var 4 rfl (.inl rfl) rfl rfl (vi_tup g1 (we_int (vi_tup (d := .tup (iL ps[pre.length].1.t)) rfl ?_)))
    refine we_var 2 rfl (.inr (.inl rfl)) rfl rfl (vi_tup (atI_nat (iL_get (getD_get (good_at hlt hg hd).1))) ?_)
    refine wa_cons (we_ix (we_var 1 rfl (.inr (.inl rfl)) rfl rfl (we_var 4 rfl (.inl rfl) rfl rfl (vi_tup g2 ?_))))
    exact wa_nil ⟨sz (Nat.le_of_ble_eq_true rfl), rfl⟩
  intro acc hle hI
  rw [rng_len, List.take_of_length_le (Nat.le_refl _)] at hI
  subst hI
  refine ws_freeze 3 rfl rfl ?_
  refine wb_cons (ws_ret (wo_of_we (we_cmp (we_lc [("take", 5), ("value", 6)] (by dsimp only [Cf.blk]; decide +kernel) (wi_lst (we_var 3 rfl (.inl rfl) rfl rfl ⟨_, rfl, ?_⟩))))))
  refine ⟨by rw [List.length_map]; exact sz (by omega), fun pre acc => acc = iL (badT (ps.take pre.length) d), rfl, ?_, ?_⟩
  · intro pre x post acc hsp hle hI
    obtain ⟨p, hp, rfl⟩ := map_at hsp
    dsimp only
    rw [snoc_len, take_at hp]
    refine wg_tup rfl (wgs_cons (wg_name 5 rfl (.inl rfl) (by decide) (wgs_cons (wg_name 6 rfl (.inl rfl) (by decide) (wgs_nil ?_)))))
    refine wt_pw (ww_and (wt_cmp (we_var 6 rfl (.inl rfl) rfl rfl (we_non (vo_notN ⟨_, rfl, if_t rfl ?_⟩)))))
    have e : badT (ps.take pre.length ++ [p]) d = badT (ps.take pre.length) d ++ badT [p] d := by unfold badT; rw [List.filter_append, List.map_append]
    refine ww_and1 (wt_cmp (we_var 6 rfl (.inl rfl) rfl rfl (we_var 5 rfl (.inl rfl) rfl rfl (vo_lt ⟨_, rfl, if_b (fun h => ?_) (fun h => ?_)⟩))))
    · refine we_var 5 rfl (.inl rfl) rfl rfl ?_
      show _ = _
      have e2 : badT [p] d = [p.1.t.getD d 0] := by unfold badT; rw [List.filter_cons, if_pos h]; rfl
      rw [e, e2, hI]
      unfold iL; rw [List.map_append]; rfl
    · show _ = _
      have e2 : badT [p] d = [] := by unfold badT; rw [List.filter_cons, if_neg (by rw [h]; exact Bool.false_ne_true)]; rfl
      rw [e, e2, List.append_nil, hI]
  intro acc hle hI
  rw [List.length_map, List.take_of_length_le (Nat.le_refl _)] at hI
  subst hI
  refine we_lst (wa_nil ⟨sz (Nat.le_of_ble_eq_true rfl), vo_eqN 2 (OkD.lst (iL_ok _)) (OkD.lst (by simp)) (by decide) fun k hk => ?_⟩)
  have e : k = fits ps d := by
    refine Bool.eq_iff_iff.mpr (hk.trans ?_)
    rw [← badT_nil]
    constructor
    · intro h
      have h := D.lst.inj h
      unfold iL at h
      simpa using h
    · intro h; rw [h]; rfl
  subst e
  exact q
abbrev s_done : Stmt := top 54
theorem sc_done : FnScope ["net", "standing", "deed", "found", "at", "change"] ["net", "standing", "deed"] (defScope s_done) := ⟨rfl, rfl, rfl, by decide +kernel, rfl, by decide +kernel, by decide +kernel⟩
theorem ok_done {f : Addr} {fd : FuncData} (B : Bl mg) (F : Fun K "_law_done" "_law_done" s_done f fd) : FnOk P w K mg base (L2.CX P w) 1 f fd ["net", "standing", "deed"] (lift K spDone) := by
  refine def_ok F sc_done (fun ds Q E ⟨_, _, _, _, e, _⟩ => by rw [e]; rfl) fun ds Q E ⟨xs, ps, d, m, e, hl, hg, hd, q⟩ => ?_
  subst e
  have hsl : (iL (stI ps)).length = ps.length := by rw [iL_len]; unfold stI; rw [List.length_map]
  refine wb_cons (ws_set 3 rfl (.inl rfl) (wo_lst (wa_nil ⟨sz (Nat.le_of_ble_eq_true rfl), ?_⟩)))
  refine wb_cons (ws_for [4] (wi_range1 rfl B.range (we_of_wo (wo_callB rfl B.len boot_len ?_))))
  refine wa_cons (we_var 1 rfl (.inl rfl) rfl rfl (wa_nil (vc_lenT ⟨_, rfl, by rw [hsl]; omega, ?_⟩)))
  rw [hsl, Int.toNat_natCast]
  refine ⟨fun pre Δ' => ∃ a4 a5, Δ' = [some (netD xs (csP ps)), some (.tup (iL (stI ps))), some (.int (d : Int)), some (.ol (iL (stI (moved (ps.take pre.length) d)))), a4, a5], ⟨_, _, rfl⟩, ?_, ?_⟩
  · intro pre x post Δ' hsp ⟨a4, a5, hI⟩
    subst hI
    obtain ⟨rfl, hlt⟩ := rng_split hsp
    rw [Int.zero_add]
    obtain ⟨g1, g2⟩ := ps_get hlt
    refine wg_name 4 rfl (.inl rfl) (by decide) ?_
    refine wb_cons (ws_set 5 rfl (.inl rfl) (wo_bin (we_ix (we_ix (we_ix (we_ix ?_))))))
    refine we_var 0 rfl (.inl rfl) rfl rfl (we_int (vi_tup (d := .tup ((csP ps).map Cn.tp)) rfl ?_))
    refine we_var 4 rfl (.inl rfl) rfl rfl (vi_tup g1 (we_int (vi_tup (d := .tup (iL ps[pre.length].1.p)) rfl ?_)))
    refine we_var 2 rfl (.inl rfl) rfl rfl (vi_tup (atI_nat (iL_get (getD_get (good_at hlt hg hd).2))) ?_)
    refine we_ix (we_ix (we_ix (we_ix ?_)))
    refine we_var 0 rfl (.inl rfl) rfl rfl (we_int (vi_tup (d := .tup ((csP ps).map Cn.tp)) rfl ?_))
    refine we_var 4 rfl (.inl rfl) rfl rfl (vi_tup g1 (we_int (vi_tup (d := .tup (iL ps[pre.length].1.t)) rfl ?_)))
    refine we_var 2 rfl (.inl rfl) rfl rfl (vi_tup (atI_nat (iL_get (getD_get (good_at hlt hg hd).1))) (vo_sub ?_))
    refine wb_cons (ws_app 3 rfl (.inl rfl) rfl (we_if (wt_cmp (we_ix (we_var 1 rfl (.inl rfl) rfl rfl (we_var 4 rfl (.inl rfl) rfl rfl (vi_tup g2 (we_non (vo_isN ⟨_, rfl, if_f rfl ?_⟩)))))))))
    refine we_bin (we_ix (we_var 1 rfl (.inl rfl) rfl rfl (we_var 4 rfl (.inl rfl) rfl rfl (vi_tup g2 ?_))))
    refine we_var 5 rfl (.inl rfl) rfl rfl (vo_add ⟨?_, ?_⟩)
    · rw [iL_len]; unfold stI moved; rw [List.length_map, List.length_map, List.length_take, sizeLine_eq]; omega
    refine wb_nil ⟨some (.int (pre.length : Nat)), some (.int (ps[pre.length].1.p.getD d 0 - ps[pre.length].1.t.getD d 0)), ?_⟩
    rw [snoc_len, take_at (List.getElem?_eq_getElem hlt)]
    have e : iL (stI (moved (ps.take pre.length ++ [ps[pre.length]]) d)) = iL (stI (moved (ps.take pre.length) d)) ++ [.int (ps[pre.length].2 + ps[pre.length].1.ch d)] := by
      unfold moved stI iL; rw [List.map_append, List.map_append, List.map_append]; rfl
    rw [e]
    rfl
  · intro Δ' ⟨a4, a5, hI⟩
    rw [rng_len, List.take_of_length_le (Nat.le_refl _)] at hI
    subst hI
    show WB _ _ _ _
    refine ws_freeze 3 rfl rfl ?_
    exact wb_cons (ws_ret (wo_callTy rfl B.tuple boot_tuple (wa_cons (we_var 3 rfl (.inl rfl) rfl rfl (wa_nil (vc_tupL q))))))
abbrev s_walked : Stmt := top 55
theorem sc_walked : FnScope ["net", "standing", "run", "deed"] ["net", "standing", "run"] (defScope s_walked) := ⟨rfl, rfl, rfl, by decide +kernel, rfl, by decide +kernel, by decide +kernel⟩
theorem ok_walked {f : Addr} {fd : FuncData} (B : Bl mg) (F : Fun K "_law_walked" "_law_walked" s_walked f fd) (d1 : Def P w K mg base 1 "_law_can" spCan) (d2 : Def P w K mg base 1 "_law_done" spDone) : FnOk P w K mg base (L2.CX P w) 2 f fd ["net", "standing", "run"] (lift K spWalked) := by
  refine def_ok F sc_walked (fun ds Q E ⟨_, _, _, _, e, _⟩ => by rw [e]; rfl) fun ds Q E ⟨xs, ps, r, m, e, hl, hg, hr, q⟩ => ?_
  subst e
  refine wb_cons (ws_for [3] (wi_tup (we_var 2 rfl (.inl rfl) rfl rfl ⟨_, rfl, ?_⟩)))
  refine ⟨fun pre Δ' => ∃ a3, Δ' = [some (netD xs (csP ps)), some (stD ((r.take pre.length).foldl wP (some ps))), some (.tup (iN r)), a3], ⟨_, rfl⟩, ?_, ?_⟩
  · intro pre x post Δ' hsp ⟨a3, hI⟩
    subst hI
    obtain ⟨d, hd, rfl⟩ := iN_split hsp
    have hdm : d < m := hr d (List.mem_of_getElem? hd)
    refine wg_name 3 rfl (.inl rfl) (by decide) ?_
    dsimp only
    rw [snoc_len, take_at hd, List.foldl_append]
    cases ho : (r.take pre.length).foldl wP (some ps) with
    | none =>
      refine wb_cons (ws_if (wt_cmp (we_var 1 rfl (.inl rfl) rfl rfl (we_non (vo_notN ⟨_, rfl, if_f rfl ?_⟩)))))
      exact wb_nil (wb_nil ⟨some (.int d), rfl⟩)
    | some qs =>
      have hf := wP_fst ho
      have hcs : csP ps = csP qs := hf.symm
      have hql : qs.length ≤ 1000 := by
        have := congrArg List.length hf
        rw [List.length_map, List.length_map] at this; omega
      have hgq : ∀ p ∈ qs, p.1.good m := fun p hp => by
        have : p.1 ∈ qs.map (·.1) := List.mem_map.mpr ⟨p, hp, rfl⟩
        rw [hf] at this
        obtain ⟨p', hp', e⟩ := List.mem_map.mp this
        rw [← e]; exact hg p' hp'
      rw [hcs]
      refine wb_cons (ws_if (wt_cmp (we_var 1 rfl (.inl rfl) rfl rfl (we_non (vo_notN ⟨_, rfl, if_t rfl ?_⟩)))))
      refine wb_cons (ws_set 1 rfl (.inl rfl) (wo_of_we (we_if (wt_val (we_call d1 (Nat.le_of_ble_eq_true rfl) rfl ?_)))))
      refine wa_cons (we_var 0 rfl (.inl rfl) rfl rfl (wa_cons (we_var 1 rfl (.inl rfl) rfl rfl (wa_cons (we_var 3 rfl (.inl rfl) rfl rfl (wa_nil ⟨xs, qs, d, m, rfl, hql, hgq, hdm, _, rfl, if_b (fun h => ?_) (fun h => ?_)⟩))))))
      · refine we_call d2 (Nat.le_of_ble_eq_true rfl) rfl (wa_cons (we_var 0 rfl (.inl rfl) rfl rfl (wa_cons (we_var 1 rfl (.inl rfl) rfl rfl (wa_cons (we_var 3 rfl (.inl rfl) rfl rfl (wa_nil ⟨xs, qs, d, m, rfl, hql, hgq, hdm, ?_⟩)))))))
        refine wb_nil (wb_nil ⟨some (.int d), ?_⟩)
        have e : [d].foldl wP (some qs) = some (moved qs d) := by show (if _ then _ else _) = _; rw [if_pos h]
        rw [e]; rfl
      · refine we_non (wb_nil (wb_nil ⟨some (.int d), ?_⟩))
        have e : [d].foldl wP (some qs) = none := by show (if _ then _ else _) = _; rw [if_neg (by rw [h]; exact Bool.false_ne_true)]
        rw [e]; rfl
  · intro Δ' ⟨a3, hI⟩
    rw [iN_len, List.take_of_length_le (Nat.le_refl _)] at hI
    subst hI
    show WB _ _ _ _
    exact wb_cons (ws_ret (wo_of_we (we_var 1 rfl (.inl rfl) rfl (stD_own _) q)))
end
end K38
end
section
set_option Elab.async false
set_option linter.all false
set_option maxRecDepth 100000
set_option maxHeartbeats 4000000
namespace K38
open PySem PySem.Spec PyProof.Rows L2 DL
structure Nn (l : List Int) (m : Nat) : Prop where
  ln : l.length = m
  nn : ∀ x ∈ l, 0 ≤ x
theorem zerosL (m : Nat) : (List.replicate m [D.int 0]).flatten = iL (List.replicate m 0) := by
  induction m with
  | zero => rfl
  | succ m ih => rw [List.replicate_succ, List.flatten_cons, ih]; rfl
theorem Nn.zero (m : Nat) : Nn (List.replicate m 0) m := ⟨by rw [List.length_replicate], fun x hx => by rw [(List.mem_replicate.mp hx).2]; exact Int.le_refl _⟩
theorem Nn.set {l : List Int} {m : Nat} (h : Nn l m) (i : Nat) {x : Int} (hx : 0 ≤ x) : Nn (l.set i x) m := ⟨by rw [List.length_set]; exact h.ln, fun y hy => by
  rcases List.mem_or_eq_of_mem_set hy with h' | rfl
  · exact h.nn y h'
  · exact hx⟩
section
variable {P : Program} {w : World} {K : PySem.W.Frag} {mg : Str → Option Value} {base : Heap} {C N ND : Addr}
abbrev s_drawnC : Stmt := top 56
theorem sc_drawnC : FnScope ["pen", "deeds", "top", "takes", "puts", "deed", "pick"] ["pen", "deeds", "top"] (defScope s_drawnC) := ⟨rfl, rfl, rfl, by decide +kernel, rfl, by decide +kernel, by decide +kernel⟩
theorem ok_drawnC {f : Addr} {fd : FuncData} (B : Bl mg) (F : Fun K "_law_drawn_counter" "_law_drawn_counter" s_drawnC f fd) (d0 : Def P w K mg base 1 "_law_draw" spDraw) : FnOk P w K mg base (L2.CX P w) 2 f fd ["pen", "deeds", "top"] (lift K spDrawnC) := by
  refine def_ok F sc_drawnC (fun ds Q E ⟨_, _, e, _⟩ => by rw [e]; rfl) fun ds Q E ⟨m, tp, e, hm, t1, t2, q⟩ => ?_
  subst e
  refine wb_cons (ws_parO 3 4 rfl rfl (by decide) rfl rfl (wo_bin (we_lst (wa_cons (we_int (wa_nil ⟨sz (Nat.le_of_ble_eq_true rfl), we_var 1 rfl (.inl rfl) rfl rfl (vo_repL (by omega) (by omega) (sz (by simp; omega)) ?_)⟩))))) (fun env h => by cases env; cases h; rfl))
  refine wo_bin (we_lst (wa_cons (we_int (wa_nil ⟨sz (Nat.le_of_ble_eq_true rfl), we_var 1 rfl (.inl rfl) rfl rfl (vo_repL (by omega) (by omega) (sz (by simp; omega)) ?_)⟩))))
  rw [Int.toNat_natCast, zerosL]
  refine wb_cons (ws_for [5] (wi_range1 rfl B.range (we_var 1 rfl (.inl rfl) rfl rfl ⟨_, rfl, by omega, ?_⟩)))
  rw [Int.toNat_natCast]
  refine ⟨fun pre Δ' => ∃ t p a5 a6, Δ' = [some .pen, some (.int m), some (.int tp), some (.ol (iL t)), some (.ol (iL p)), a5, a6] ∧ Nn t m ∧ Nn p m, ⟨_, _, _, _, rfl, Nn.zero m, Nn.zero m⟩, ?_, ?_⟩
  · intro pre x post Δ' hsp ⟨t, p, a5, a6, hI, ht, hp⟩
    subst hI
    obtain ⟨rfl, hlt⟩ := rng_split hsp
    rw [Int.zero_add]
    generalize pre.length = i at *
    refine wg_name 5 rfl (.inl rfl) (by decide) ?_
    refine wb_cons (ws_set 6 rfl (.inl rfl) (wo_call d0 (Nat.le_of_ble_eq_true rfl) rfl (wa_cons (we_var 0 rfl (.inl rfl) rfl rfl (wa_cons (we_int (wa_nil ⟨_, rfl, by decide, by decide, fun k k0 k1 => ?_⟩)))))))
    have one : ∀ {c : Cf} {T : Te} {Δ : Dl} (y : D → Prop), True := fun _ => trivial
    refine wb_cons (ws_item 3 (ds := iL t) rfl (.inl rfl) rfl (WE.mono (Q := fun d => ∃ z : Int, d = .int z ∧ 0 ≤ z) ?_ ?_))
    · refine we_if (wt_pw (ww_or (wt_cmp (we_var 6 rfl (.inl rfl) rfl rfl (we_tup (wa_cons (we_int (wa_cons (we_int (wa_nil ⟨sz (Nat.le_of_ble_eq_true rfl), vo_inI (zs := [0, 1]) .tup ⟨_, rfl, if_b (fun h => ?_) (fun h => ?_)⟩⟩))))))))))
      · refine we_bin (we_int (we_call d0 (Nat.le_of_ble_eq_true rfl) rfl (wa_cons (we_var 0 rfl (.inl rfl) rfl rfl (wa_cons (we_var 2 rfl (.inl rfl) rfl rfl (wa_nil ⟨_, rfl, t1, by omega, fun z z0 z1 => vo_add ⟨_, rfl, by omega⟩⟩)))))))
      · refine ww_or1 (wt_cmp (we_var 6 rfl (.inl rfl) rfl rfl (we_int (vo_eqi ⟨_, rfl, if_b (fun h => ?_) (fun h => ?_)⟩))))
        · refine we_bin (we_int (we_call d0 (Nat.le_of_ble_eq_true rfl) rfl (wa_cons (we_var 0 rfl (.inl rfl) rfl rfl (wa_cons (we_var 2 rfl (.inl rfl) rfl rfl (wa_nil ⟨_, rfl, t1, by omega, fun z z0 z1 => vo_add ⟨_, rfl, by omega⟩⟩)))))))
        · exact we_int ⟨_, rfl, Int.le_refl _⟩
    · rintro d ⟨z, rfl, hz⟩
      refine we_var 5 rfl (.inl rfl) rfl rfl ⟨_, i, rfl, ixN_at (by rw [iL_len, ht.ln]; exact hlt), ?_⟩
      rw [iL_set]
      refine wb_cons (ws_item 4 (ds := iL p) rfl (.inl rfl) rfl (WE.mono (Q := fun d => ∃ z : Int, d = .int z ∧ 0 ≤ z) ?_ ?_))
      · refine we_if (wt_pw (ww_or (wt_cmp (we_var 6 rfl (.inl rfl) rfl rfl (we_tup (wa_cons (we_int (wa_cons (we_int (wa_nil ⟨sz (Nat.le_of_ble_eq_true rfl), vo_inI (zs := [2, 3]) .tup ⟨_, rfl, if_b (fun h => ?_) (fun h => ?_)⟩⟩))))))))))
        · refine we_bin (we_int (we_call d0 (Nat.le_of_ble_eq_true rfl) rfl (wa_cons (we_var 0 rfl (.inl rfl) rfl rfl (wa_cons (we_var 2 rfl (.inl rfl) rfl rfl (wa_nil ⟨_, rfl, t1, by omega, fun z z0 z1 => vo_add ⟨_, rfl, by omega⟩⟩)))))))
        · refine ww_or1 (wt_cmp (we_var 6 rfl (.inl rfl) rfl rfl (we_int (vo_eqi ⟨_, rfl, if_b (fun h => ?_) (fun h => ?_)⟩))))
          · refine we_bin (we_int (we_call d0 (Nat.le_of_ble_eq_true rfl) rfl (wa_cons (we_var 0 rfl (.inl rfl) rfl rfl (wa_cons (we_var 2 rfl (.inl rfl) rfl rfl (wa_nil ⟨_, rfl, t1, by omega, fun z z0 z1 => vo_add ⟨_, rfl, by omega⟩⟩)))))))
          · exact we_int ⟨_, rfl, Int.le_refl _⟩
      · rintro d ⟨z2, rfl, hz2⟩
        refine we_var 5 rfl (.inl rfl) rfl rfl ⟨_, i, rfl, ixN_at (by rw [iL_len, hp.ln]; exact hlt), ?_⟩
        rw [iL_set]
        exact wb_nil ⟨t.set i z, p.set i z2, some (.int i), some (.int k), rfl, ht.set i hz, hp.set i hz2⟩
  · intro Δ' ⟨t, p, a5, a6, hI, ht, hp⟩
    subst hI
    show WB _ _ _ _
    refine ws_freeze 3 rfl rfl (ws_freeze 4 rfl rfl ?_)
    refine wb_cons (ws_ret (wo_tup (wa_cons (we_call d0 (Nat.le_of_ble_eq_true rfl) rfl (wa_cons (we_var 0 rfl (.inl rfl) rfl rfl (wa_cons (we_bin (we_bin (we_int ?_))))))))))
    refine we_var 2 rfl (.inl rfl) rfl rfl (vo_mul (.inl (by decide)) (we_int (vo_add (wa_nil ⟨_, rfl, by omega, by omega, fun z z0 z1 => ?_⟩))))
    refine wa_cons (we_of_wo (wo_callTy rfl B.tuple boot_tuple (wa_cons (we_var 3 rfl (.inl rfl) rfl rfl (wa_nil (vc_tupL ?_))))))
    refine wa_cons (we_of_wo (wo_callTy rfl B.tuple boot_tuple (wa_cons (we_var 4 rfl (.inl rfl) rfl rfl (wa_nil (vc_tupL ?_))))))
    exact wa_nil ⟨sz (Nat.le_of_ble_eq_true rfl), q ⟨z, t, p⟩ ⟨z0, ht.ln, hp.ln, ht.nn, hp.nn⟩⟩
end
end K38
end
section
set_option Elab.async false
set_option linter.all false
set_option maxRecDepth 100000
set_option maxHeartbeats 4000000
namespace K38
open PySem PySem.Spec PyProof.Rows L2 DL
def itB : D → Option Bool
  | .int _ => some true
  | .bl _ => some false | .non => some false | .str _ => some false | .tup _ => some false
  | _ => none
def whB (d : D) : Bool := itB d == some true
def nnB : D → Bool
  | .int i => decide (0 ≤ i)
  | _ => false
def whsB (d : D) (m : Nat) : Bool := match d with
  | .tup l => decide (l.length = m) && l.all whB
  | _ => false
def nmsB (d : D) (m : Nat) : Bool := match d with
  | .tup l => decide (l.length = m) && l.all nnB
  | _ => false
def isTup : D → Bool
  | .tup _ => true
  | _ => false
def Vl : D → Prop
  | .tup l => l.length ≤ 1000 ∧ ∀ x ∈ l, itB x ≠ none
  | .lst _ => True | .non => True | .int _ => True | .str _ => True | .bl _ => True
  | _ => False
theorem Vl.own {d : D} (h : Vl d) : d.own = false := by cases d <;> first | rfl | exact h.elim
theorem whB_all : ∀ {l : List D}, l.all whB = true → ∃ ns, l = iL ns
  | [], _ => ⟨[], rfl⟩
  | d :: l, h => by
    rw [List.all_cons, Bool.and_eq_true] at h
    obtain ⟨ns, rfl⟩ := whB_all h.2
    cases d with
    | int i => exact ⟨i :: ns, rfl⟩
    | _ => cases h.1
theorem nn_wh : ∀ {l : List D}, l.all nnB = true → l.all whB = true
  | [], _ => rfl
  | d :: l, h => by
    rw [List.all_cons, Bool.and_eq_true] at h
    rw [List.all_cons, nn_wh h.2, Bool.and_true]
    cases d with
    | int i => rfl
    | _ => cases h.1
theorem nn_iL (ns : List Int) : (iL ns).all nnB = ns.all fun x => decide (0 ≤ x) := by unfold iL; rw [List.all_map]; rfl
theorem nms_wh {d : D} {m : Nat} (h : whsB d m = false) : nmsB d m = false := by
  cases d with
  | tup l =>
    have h : (decide (l.length = m) && l.all whB) = false := h
    show (decide (l.length = m) && l.all nnB) = false
    cases q : l.all nnB with
    | false => rw [Bool.and_false]
    | true => rw [nn_wh q] at h; rw [Bool.and_true] at h ⊢; exact h
  | _ => rfl
theorem nms_iL {d : D} {m : Nat} (h : nmsB d m = true) : ∃ ns, d = .tup (iL ns) ∧ ns.length = m ∧ ∀ x ∈ ns, 0 ≤ x := by
  cases d with
  | tup l =>
    have h : (decide (l.length = m) && l.all nnB) = true := h
    rw [Bool.and_eq_true] at h
    obtain ⟨ns, rfl⟩ := whB_all (nn_wh h.2)
    have h1 := of_decide_eq_true h.1
    rw [iL_len] at h1
    refine ⟨ns, rfl, h1, fun x hx => ?_⟩
    have h2 := h.2
    rw [nn_iL] at h2
    exact of_decide_eq_true (List.all_eq_true.mp h2 x hx)
  | _ => cases h
def spWh : DSp := fun ds Q _ => ∃ d k, ds = [d] ∧ itB d = some k ∧ Q (.bl k)
def spWholes : DSp := fun ds Q _ => ∃ d, ∃ m : Nat, ds = [d, .int m] ∧ Vl d ∧ Q (.bl (whsB d m))
def spNums : DSp := fun ds Q _ => ∃ d, ∃ m : Nat, ds = [d, .int m] ∧ Vl d ∧ Q (.bl (nmsB d m))
section
variable {P : Program} {w : World} {K : PySem.W.Frag} {mg : Str → Option Value} {base : Heap} {BN : Addr}
theorem ok_wh {f : Addr} {fd : FuncData} (B : Bl mg) (F : Fun K "is_whole" "is_whole" s_is_whole f fd) : FnOk P w K mg base (L2.CX P w) 1 f fd ["value"] (lift K spWh) := by
  refine def_ok F sc_is_whole (fun ds Q E ⟨d, k, e, _⟩ => by rw [e]; rfl) fun ds Q E ⟨d, k, e, hk, q⟩ => ?_
  subst e
  have no : d.own = false := by cases d <;> first | rfl | cases hk
  refine wb_cons (ws_ret (wo_of_we (we_and (we_of_wo (wo_callB rfl B.isinstance boot_isinstance ?_)))))
  refine wa_cons (we_var 0 rfl (.inl rfl) rfl no (wa_cons (we_ty rfl B.int boot_int (wa_nil ?_))))
  cases d with
  | int i =>
    cases hk
    refine vc_isi (T := "int") (k := true) rfl (by decide +kernel) ⟨_, rfl, if_t rfl ?_⟩
    refine we_one (we_not (we_of_wo (wo_callB rfl B.isinstance boot_isinstance ?_)))
    refine wa_cons (we_var 0 rfl (.inl rfl) rfl rfl (wa_cons (we_ty rfl B.bool boot_bool (wa_nil ?_))))
    exact vc_isi (T := "int") (k := false) rfl (by decide +kernel) ⟨_, rfl, q⟩
  | bl b =>
    cases hk
    refine vc_isi (T := "bool") (k := true) rfl (by decide +kernel) ⟨_, rfl, if_t rfl ?_⟩
    refine we_one (we_not (we_of_wo (wo_callB rfl B.isinstance boot_isinstance ?_)))
    refine wa_cons (we_var 0 rfl (.inl rfl) rfl rfl (wa_cons (we_ty rfl B.bool boot_bool (wa_nil ?_))))
    exact vc_isi (T := "bool") (k := true) rfl (by decide +kernel) ⟨_, rfl, q⟩
  | non =>
    cases hk
    exact vc_isi (T := "NoneType") (k := false) rfl (by decide +kernel) ⟨_, rfl, if_f rfl q⟩
  | str x =>
    cases hk
    exact vc_isi (T := "str") (k := false) rfl (by decide +kernel) ⟨_, rfl, if_f rfl q⟩
  | tup l =>
    cases hk
    exact vc_isi (T := "tuple") (k := false) rfl (by decide +kernel) ⟨_, rfl, if_f rfl q⟩
  | _ => cases hk
variable {c : Cf} {Q : D → Prop} in
theorem vc_isTup {d : D} (h : Vl d) (q : Q (.bl (isTup d))) : VC c (.builtin "isinstance") [d, .ty "tuple"] Q := by
  cases d with
  | tup l => exact vc_isi (T := "tuple") (k := true) rfl (by decide +kernel) q
  | lst l => exact vc_isi (T := "list") (k := false) rfl (by decide +kernel) q
  | int l => exact vc_isi (T := "int") (k := false) rfl (by decide +kernel) q
  | bl l => exact vc_isi (T := "bool") (k := false) rfl (by decide +kernel) q
  | non => exact vc_isi (T := "NoneType") (k := false) rfl (by decide +kernel) q
  | str l => exact vc_isi (T := "str") (k := false) rfl (by decide +kernel) q
  | _ => exact h.elim
theorem ok_whs {f : Addr} {fd : FuncData} (B : Bl mg) (F : Fun K "is_wholes" "is_wholes" s_is_wholes f fd) (d1 : Def P w K mg base 1 "is_whole" spWh) : FnOk P w K mg base (L2.CX P w) 2 f fd ["value", "many"] (lift K spWholes) := by
  refine def_ok F sc_is_wholes (fun ds Q E ⟨_, _, e, _⟩ => by rw [e]; rfl) fun ds Q E ⟨d, m, e, hv, q⟩ => ?_
  subst e
  refine wb_cons (ws_ret (wo_of_we (we_and (we_of_wo (wo_callB rfl B.isinstance boot_isinstance ?_)))))
  refine wa_cons (we_var 0 rfl (.inl rfl) rfl hv.own (wa_cons (we_ty rfl B.tuple boot_tuple (wa_nil (vc_isTup hv ⟨_, rfl, if_b (fun h => ?_) (fun h => ?_)⟩)))))
  · cases d with
    | tup l =>
      obtain ⟨hl, hi⟩ := hv
      have q : Q (.bl (decide (l.length = m) && l.all whB)) := q
      refine we_and (we_cmp (we_of_wo (wo_callB rfl B.len boot_len (wa_cons (we_var 0 rfl (.inl rfl) rfl rfl (wa_nil (vc_lenT ?_)))))))
      refine we_var 1 rfl (.inl rfl) rfl rfl (vo_eqi ⟨_, rfl, if_b (fun h => ?_) (fun h => ?_)⟩)
      · have h := of_decide_eq_true h
        rw [decide_eq_true (show l.length = m by omega), Bool.true_and] at q
        refine we_one (we_of_wo (wo_callB rfl B.all boot_all (wa_cons (we_lc [("one", 2)] (by dsimp only [Cf.blk]; decide +kernel) (wi_tup (we_var 0 rfl (.inl rfl) rfl rfl ⟨_, rfl, sz (by omega), fun pre acc => acc = (pre.map whB).map D.bl, rfl, ?_, ?_⟩))))))
        · intro pre x post acc hsp hle hI
          subst hI
          have hx := hi x (by rw [hsp]; simp)
          obtain ⟨k, hk⟩ := Option.ne_none_iff_exists'.mp hx
          have no : x.own = false := by cases x <;> first | rfl | cases hk
          refine wg_name 2 rfl (.inl rfl) (by decide) (we_call d1 (Nat.le_of_ble_eq_true rfl) rfl (wa_cons (we_var 2 rfl (.inl rfl) rfl no (wa_nil ⟨x, k, rfl, hk, ?_⟩))))
          show _ = _
          rw [List.map_append, List.map_append]
          have e : whB x = k := by unfold whB; rw [hk]; cases k <;> rfl
          show _ = _ ++ [D.bl (whB x)]
          rw [e]; rfl
        · intro acc hle hI
          subst hI
          refine wa_nil (vc_all ?_)
          rw [List.all_map]; exact q
      · have h' := of_decide_eq_false h
        rw [decide_eq_false (show ¬ l.length = m by omega), Bool.false_and] at q
        rw [h]; exact q
    | _ => cases h
  · have e : whsB d m = false := by cases d <;> first | rfl | cases h
    rw [e] at q
    rw [h]; exact q
theorem ok_nms {f : Addr} {fd : FuncData} (B : Bl mg) (F : Fun K "is_numbers" "is_numbers" s_is_numbers f fd) (d1 : Def P w K mg base 2 "is_wholes" spWholes) : FnOk P w K mg base (L2.CX P w) 3 f fd ["value", "many"] (lift K spNums) := by
  refine def_ok F sc_is_numbers (fun ds Q E ⟨_, _, e, _⟩ => by rw [e]; rfl) fun ds Q E ⟨d, m, e, hv, q⟩ => ?_
  subst e
  refine wb_cons (ws_ret (wo_of_we (we_and (we_call d1 (Nat.le_of_ble_eq_true rfl) rfl ?_))))
  refine wa_cons (we_var 0 rfl (.inl rfl) rfl hv.own (wa_cons (we_var 1 rfl (.inl rfl) rfl rfl (wa_nil ⟨d, m, rfl, hv, ⟨_, rfl, if_b (fun h => ?_) (fun h => ?_)⟩⟩))))
  · cases d with
    | tup l =>
      obtain ⟨hl, hi⟩ := hv
      have h : (decide (l.length = m) && l.all whB) = true := h
      rw [Bool.and_eq_true] at h
      obtain ⟨ns, rfl⟩ := whB_all h.2
      have q : Q (.bl (decide ((iL ns).length = m) && (iL ns).all nnB)) := q
      rw [h.1, Bool.true_and, nn_iL] at q
      refine we_one (we_of_wo (wo_callB rfl B.all boot_all (wa_cons (we_lc [("one", 2)] (by dsimp only [Cf.blk]; decide +kernel) (wi_tup (we_var 0 rfl (.inl rfl) rfl rfl ⟨_, rfl, sz (by omega), fun pre acc => acc = ((ns.take pre.length).map fun x => decide (0 ≤ x)).map D.bl, rfl, ?_, ?_⟩))))))
      · intro pre x post acc hsp hle hI
        obtain ⟨z, hz, rfl⟩ := map_at hsp
        refine wg_name 2 rfl (.inl rfl) (by decide) (we_cmp (we_var 2 rfl (.inl rfl) rfl rfl (we_int (vo_ge ?_))))
        show _ = _
        rw [snoc_len, take_at hz, List.map_append, List.map_append, hI]; rfl
      · intro acc hle hI
        rw [iL_len, List.take_length] at hI
        subst hI
        refine wa_nil (vc_all ?_)
        rw [List.all_map]; exact q
    | _ => cases h
  · rw [nms_wh h] at q
    rw [h]; exact q
end
section
variable {P : Program} {w : World} {K : PySem.W.Frag} {mg : Str → Option Value} {base : Heap} {BN : Addr}
end
end K38
end
section
set_option Elab.async false
set_option linter.all false
set_option maxRecDepth 100000
set_option maxHeartbeats 4000000
namespace K38
open PySem PySem.Spec PyProof.Rows L2 DL
/-! SF: the program's defs over odd values. -/
def VR (d : D) : Prop := Vl d ∧ ∀ l, d = .lst l → Vl (.tup l)
section
variable {P : Program} {w : World} {K : PySem.W.Frag} {mg : Str → Option Value} {base : Heap} {C F_ B_ S_ BR : Addr}
variable {c : Cf} {Q : D → Prop} in
end
/-! RA: the plain law of k53. -/
theorem at_split {l pre post : List D} {x : D} (h : l = pre ++ x :: post) : l[pre.length]? = some x := by rw [h, List.getElem?_append_right (Nat.le_refl _), Nat.sub_self]; rfl
theorem bls_snoc {bs : List Bool} {k : Bool} : (bs.map D.bl) ++ [D.bl k] = (bs ++ [k]).map D.bl := by rw [List.map_append]; rfl
section
variable {P : Program} {w : World} {K : PySem.W.Frag} {mg : Str → Option Value} {base : Heap} {BN : Addr}
variable {c : Cf} {Q : D → Prop} in
end
section
variable {P : Program} {w : World} {K : PySem.W.Frag} {mg : Str → Option Value} {base : Heap} {BN : Addr}
end
end K38
end
section
set_option Elab.async false
set_option linter.all false
set_option maxRecDepth 100000
set_option maxHeartbeats 4000000
/-! YR: start, lets, moved, need_standing. -/
namespace K38
open PySem PySem.Spec PyProof.Rows L2 DL
abbrev netO (C N : Addr) (xs : List Str) (cs : List Cn) : D := .ins N nN (ntFs C xs cs)
def tupz : D → D
  | .lst l => .tup l
  | d => d
theorem pairs_two {α : Type} {f g : α → D} : ∀ ps : List α, pairs (ps.map f) (ps.map g) = ps.map fun p => .tup [f p, g p]
  | [] => rfl
  | p :: ps => by
    have ih := pairs_two (f := f) (g := g) ps
    unfold pairs at ih ⊢
    rw [List.map_cons, List.map_cons, List.zip_cons_cons, List.map_cons, ih]; rfl
theorem pairs_co (C : Addr) (ps : List (Cn × Int)) : pairs ((csP ps).map (Cn.d C)) (iL (stI ps)) = ps.map fun p => .tup [p.1.d C, .int p.2] := by
  unfold csP stI iL
  rw [List.map_map, List.map_map]
  exact pairs_two (f := fun p : Cn × Int => p.1.d C) (g := fun p : Cn × Int => D.int p.2) ps
theorem pairs_rw (ps : List (Cn × Int)) : pairs ((csP ps).map fun n => .tup (iL n.chs)) (iL (stI ps)) = ps.map fun p => .tup [.tup (iL p.1.chs), .int p.2] := by
  unfold csP stI iL
  rw [List.map_map, List.map_map]
  exact pairs_two (f := fun p : Cn × Int => .tup (iL p.1.chs)) (g := fun p : Cn × Int => D.int p.2) ps
def spStart (C N : Addr) : DSp := fun ds Q _ => ∃ xs cs, ds = [netO C N xs cs] ∧ cs.length ≤ 1000 ∧ Q (.tup (iL (cs.map Cn.f)))
def spLets (C N : Addr) : DSp := fun ds Q _ => ∃ xs ps m, ∃ d : Nat, ds = [netO C N xs (csP ps), .tup (iL (stI ps)), .int (d : Int)] ∧ ps.length ≤ 1000 ∧ (∀ p ∈ ps, p.1.good m) ∧ d < m ∧ Q (.bl (fits ps d))
def spMoved (C N : Addr) : DSp := fun ds Q _ => ∃ xs ps m, ∃ d : Nat, ds = [netO C N xs (csP ps), .tup (iL (stI ps)), .int (d : Int)] ∧ ps.length ≤ 1000 ∧ (∀ p ∈ ps, p.1.good m) ∧ d < m ∧ Q (.tup (iL (stI (moved ps d))))
def spNeedSt (C N BR : Addr) : DSp := fun ds Q E => ∃ xs cs s, ds = [netO C N xs cs, s] ∧ cs.length ≤ 1000 ∧ VR s ∧ (nmsB (tupz s) cs.length = true → Q (tupz s)) ∧ (nmsB (tupz s) cs.length = false → E ⟨BR, ["row", "what"], [s, .str "standing"]⟩)
section
variable {P : Program} {w : World} {K : PySem.W.Frag} {mg : Str → Option Value} {base : Heap} {C N BR ND NX : Addr}
abbrev s_start : Stmt := top 34
theorem sc_start : FnScope ["net", "counter"] ["net"] (defScope s_start) := ⟨rfl, rfl, rfl, by decide +kernel, rfl, by decide +kernel, by decide +kernel⟩
theorem ok_start {f : Addr} {fd : FuncData} (B : Bl mg) (CF : CFx K mg "Counter" C cN) (NF : CFx K mg "Net" N nN) (F : Fun K "start" "start" s_start f fd) : FnOk P w K mg base (L2.CX P w) 1 f fd ["net"] (lift K (spStart C N)) := by
  refine def_ok F sc_start (fun ds Q E ⟨_, _, e, _⟩ => by rw [e]; rfl) fun ds Q E ⟨xs, cs, e, hl, q⟩ => ?_
  subst e
  refine wb_cons (ws_ret (wo_callTy rfl B.tuple boot_tuple (wa_cons (we_lc [("counter", 1)] (by dsimp only [Cf.blk]; decide +kernel) (wi_tup (we_fld (we_var 0 rfl (.inl rfl) rfl rfl ⟨N, nN, _, _, rfl, NF.cl.cl, NF.no _ (by simp [nN]), rfl, ?_⟩)))))))
  refine ⟨_, rfl, by rw [List.length_map]; exact sz (by omega), fun pre acc => acc = iL ((cs.take pre.length).map Cn.f), rfl, ?_, ?_⟩
  · intro pre d post acc hsp hle hI
    obtain ⟨n, hn, rfl⟩ := map_at hsp
    dsimp only
    rw [snoc_len, take_at hn, List.map_append, hI]
    refine wg_name 1 rfl (.inl rfl) (by decide) (we_fld (we_var 1 rfl (.inl rfl) rfl rfl ⟨C, cN, _, _, rfl, CF.cl.cl, CF.no _ (by simp [cN]), rfl, ?_⟩))
    show _ = _
    unfold iL; rw [List.map_append]; rfl
  intro acc hle hI
  rw [List.length_map, List.take_length] at hI
  subst hI
  exact wa_nil (vc_tupL q)
abbrev s_lets : Stmt := top 35
theorem sc_lets : FnScope ["net", "standing", "deed", "pairs", "counter", "value"] ["net", "standing", "deed"] (defScope s_lets) := ⟨rfl, rfl, rfl, by decide +kernel, rfl, by decide +kernel, by decide +kernel⟩
theorem ok_lets {f : Addr} {fd : FuncData} (B : Bl mg) (CF : CFx K mg "Counter" C cN) (NF : CFx K mg "Net" N nN) (F : Fun K "lets" "lets" s_lets f fd) : FnOk P w K mg base (L2.CX P w) 1 f fd ["net", "standing", "deed"] (lift K (spLets C N)) := by
  refine def_ok F sc_lets (fun ds Q E ⟨_, _, _, _, e, _⟩ => by rw [e]; rfl) fun ds Q E ⟨xs, ps, m, d, e, hl, hg, hd, q⟩ => ?_
  subst e
  refine wb_zipAll 3 [("counter", 4), ("value", 5)] (by dsimp only [Cf.blk]; decide +kernel) (Nat.le_of_ble_eq_true rfl) rfl (.inl rfl) (.inl rfl) rfl B.zip rfl B.all ?_
  refine we_fld (we_var 0 rfl (.inl rfl) rfl rfl ⟨N, nN, _, _, rfl, NF.cl.cl, NF.no _ (by simp [nN]), rfl, we_var 1 rfl (.inl rfl) rfl rfl ?_⟩)
  refine ⟨_, _, .inr rfl, .inr rfl, ?_⟩
  rw [pairs_co]
  refine ⟨by rw [List.length_map]; exact sz (by omega), fun pre acc => acc = ((ps.take pre.length).map fun p => decide (p.1.t.getD d 0 ≤ p.2)).map D.bl, rfl, ?_, ?_⟩
  · intro pre y post acc hsp hle hI
    obtain ⟨p, hp, rfl⟩ := map_at hsp
    have g := hg p (List.mem_of_getElem? hp)
    have hat : atI (iL p.1.t) (d : Int) = some (.int (p.1.t.getD d 0)) := atI_nat (iL_get (getD_get (by rw [g.tl]; exact hd)))
    dsimp only
    rw [snoc_len, take_at hp, List.map_append, List.map_append, hI]
    refine wg_tup rfl (wgs_cons (wg_name 4 rfl (.inl rfl) (by decide) (wgs_cons (wg_name 5 rfl (.inl rfl) (by decide) (wgs_nil ?_)))))
    refine we_or (we_cmp (we_var 5 rfl (.inl rfl) rfl rfl (we_non (vo_isN ⟨_, rfl, if_f rfl ?_⟩))))
    refine we_one (we_cmp (we_var 5 rfl (.inl rfl) rfl rfl (we_ix (we_fld (we_var 4 rfl (.inl rfl) rfl rfl ⟨C, cN, _, _, rfl, CF.cl.cl, CF.no _ (by simp [cN]), rfl, ?_⟩)))))
    exact we_var 2 rfl (.inr (.inl rfl)) rfl rfl (vi_tup hat (vo_ge rfl))
  · intro acc hle hI
    rw [List.length_map, List.take_length] at hI
    refine ⟨_, hI, ?_⟩
    have e : ((ps.map fun p => decide (p.1.t.getD d 0 ≤ p.2)).all id) = fits ps d := by unfold fits; rw [List.all_map]; rfl
    rw [e]; exact q
abbrev s_moved : Stmt := top 36
theorem sc_moved : FnScope ["net", "standing", "deed", "row", "value"] ["net", "standing", "deed"] (defScope s_moved) := ⟨rfl, rfl, rfl, by decide +kernel, rfl, by decide +kernel, by decide +kernel⟩
theorem ok_moved {f : Addr} {fd : FuncData} (B : Bl mg) (NF : CFx K mg "Net" N nN) (F : Fun K "moved" "moved" s_moved f fd) : FnOk P w K mg base (L2.CX P w) 1 f fd ["net", "standing", "deed"] (lift K (spMoved C N)) := by
  refine def_ok F sc_moved (fun ds Q E ⟨_, _, _, _, e, _⟩ => by rw [e]; rfl) fun ds Q E ⟨xs, ps, m, d, e, hl, hg, hd, q⟩ => ?_
  subst e
  refine wb_cons (ws_ret (wo_callTy rfl B.tuple boot_tuple (wa_cons (we_lc [("row", 3), ("value", 4)] (by dsimp only [Cf.blk]; decide +kernel) (wi_zipX rfl B.zip (we_fld ?_))))))
  refine we_var 0 rfl (.inl rfl) rfl rfl ⟨N, nN, _, _, rfl, NF.cl.cl, NF.no _ (by simp [nN]), rfl, we_var 1 rfl (.inl rfl) rfl rfl ⟨_, _, .inr rfl, .inr rfl, ?_⟩⟩
  rw [pairs_rw]
  refine ⟨by rw [List.length_map]; exact sz (by omega), fun pre acc => acc = iL (stI (moved (ps.take pre.length) d)), rfl, ?_, ?_⟩
  · intro pre y post acc hsp hle hI
    obtain ⟨p, hp, rfl⟩ := map_at hsp
    have g := hg p (List.mem_of_getElem? hp)
    have hat : atI (iL p.1.chs) (d : Int) = some (.int (p.1.ch d)) := atI_nat (iL_get (chs_get (by rw [g.tl]; exact hd)))
    dsimp only
    rw [snoc_len, take_at hp, hI]
    refine wg_tup rfl (wgs_cons (wg_name 3 rfl (.inl rfl) (by decide) (wgs_cons (wg_name 4 rfl (.inl rfl) (by decide) (wgs_nil ?_)))))
    refine we_if (wt_cmp (we_var 4 rfl (.inl rfl) rfl rfl (we_non (vo_isN ⟨_, rfl, if_f rfl ?_⟩))))
    refine we_bin (we_var 4 rfl (.inl rfl) rfl rfl (we_ix (we_var 3 rfl (.inl rfl) rfl rfl (we_var 2 rfl (.inr (.inl rfl)) rfl rfl (vi_tup hat (vo_add ?_))))))
    show _ = _
    unfold moved stI iL; rw [List.map_append, List.map_append, List.map_append]; rfl
  intro acc hle hI
  rw [List.length_map, List.take_length] at hI
  subst hI
  exact wa_nil (vc_tupL q)
abbrev s_needSt : Stmt := top 37
theorem sc_needSt : FnScope ["net", "standing", "row"] ["net", "standing"] (defScope s_needSt) := ⟨rfl, rfl, rfl, by decide +kernel, rfl, by decide +kernel, by decide +kernel⟩
theorem tupz_own {s : D} (h : VR s) : (tupz s).own = false ∧ Vl (tupz s) := by
  obtain ⟨h1, h2⟩ := h
  cases s <;> first | exact ⟨rfl, h2 _ rfl⟩ | exact ⟨h1.own, h1⟩
theorem ok_needSt {f : Addr} {fd : FuncData} (B : Bl mg) (NF : CFx K mg "Net" N nN) (M : XMk P w K mg base "BadRow" BR ["what", "row"]) (F : Fun K "need_standing" "need_standing" s_needSt f fd) (d1 : Def P w K mg base 3 "is_numbers" spNums) : FnOk P w K mg base (L2.CX P w) 4 f fd ["net", "standing"] (lift K (spNeedSt C N BR)) := by
  refine def_ok F sc_needSt (fun ds Q E ⟨_, _, _, e, _⟩ => by rw [e]; rfl) fun ds Q E ⟨xs, cs, s, e, hl, hv, q1, q2⟩ => ?_
  subst e
  have so := hv.1.own
  obtain ⟨to, tv⟩ := tupz_own hv
  refine wb_cut (fun Δ' => Δ' = [some (netO C N xs cs), some s, some (tupz s)]) ?_ ?_
  · refine ws_set 2 rfl (.inl rfl) (wo_of_we (we_if (wt_val (we_of_wo (wo_callB rfl B.isinstance boot_isinstance (wa_cons (we_var 1 rfl (.inl rfl) rfl so (wa_cons (we_ty rfl B.list boot_list (wa_nil ?_)))))))))) 
    cases s with
    | lst l => exact vc_isi (T := "list") (k := true) rfl (by decide +kernel) ⟨_, rfl, if_t rfl (we_of_wo (wo_callTy rfl B.tuple boot_tuple (wa_cons (we_var 1 rfl (.inl rfl) rfl rfl (wa_nil (vc_tupL rfl))))))⟩
    | tup l => exact vc_isi (T := "tuple") (k := false) rfl (by decide +kernel) ⟨_, rfl, if_f rfl (we_var 1 rfl (.inl rfl) rfl rfl rfl)⟩
    | int l => exact vc_isi (T := "int") (k := false) rfl (by decide +kernel) ⟨_, rfl, if_f rfl (we_var 1 rfl (.inl rfl) rfl rfl rfl)⟩
    | bl l => exact vc_isi (T := "bool") (k := false) rfl (by decide +kernel) ⟨_, rfl, if_f rfl (we_var 1 rfl (.inl rfl) rfl rfl rfl)⟩
    | non => exact vc_isi (T := "NoneType") (k := false) rfl (by decide +kernel) ⟨_, rfl, if_f rfl (we_var 1 rfl (.inl rfl) rfl rfl rfl)⟩
    | str l => exact vc_isi (T := "str") (k := false) rfl (by decide +kernel) ⟨_, rfl, if_f rfl (we_var 1 rfl (.inl rfl) rfl rfl rfl)⟩
    | _ => exact hv.1.elim
  intro Δ' hI
  subst hI
  refine wb_cons (ws_if (wt_not (wt_val (we_call d1 (Nat.le_of_ble_eq_true rfl) rfl (wa_cons (we_var 2 rfl (.inl rfl) rfl to (wa_cons (we_of_wo (wo_callB rfl B.len boot_len (wa_cons (we_fld ?_)))))))))))
  refine we_var 0 rfl (.inl rfl) rfl rfl ⟨N, nN, _, _, rfl, NF.cl.cl, NF.no _ (by simp [nN]), rfl, wa_nil (vc_lenT (wa_nil ⟨tupz s, cs.length, by rw [List.length_map]; rfl, tv, _, rfl, if_b (fun h => ?_) (fun h => ?_)⟩))⟩
  · have h : nmsB (tupz s) cs.length = false := by simpa using h
    exact wb_cons (ws_raise M (Nat.le_of_ble_eq_true rfl) rfl (wa_cons (we_str (wa_cons (we_var 1 rfl (.inl rfl) rfl so (wa_nil ⟨rfl, q2 h⟩))))))
  · have h : nmsB (tupz s) cs.length = true := by simpa using h
    exact wb_nil (wb_cons (ws_ret (wo_of_we (we_var 2 rfl (.inl rfl) rfl to (q1 h)))))
end
end K38
end
section
set_option Elab.async false
set_option linter.all false
set_option maxRecDepth 100000
set_option maxHeartbeats 4000000
/-! YT: can_do, net_deeds, done_at. -/
namespace K38
open PySem PySem.Spec PyProof.Rows L2 DL
structure NetOk (xs : List Str) (cs : List Cn) : Prop where
  g : ∀ n ∈ cs, n.good xs.length
  l : cs.length ≤ 1000
  x : xs.length ≤ 100
/-- the standing of cs that ns tells -/
theorem st_of {cs : List Cn} {s : D} (h : nmsB (tupz s) cs.length = true) : ∃ ps : List (Cn × Int), csP ps = cs ∧ tupz s = .tup (iL (stI ps)) := by
  obtain ⟨ns, e, hl, _⟩ := nms_iL h
  refine ⟨cs.zip ns, ?_, ?_⟩
  · unfold csP; rw [List.map_fst_zip (by omega)]
  · unfold stI; rw [List.map_snd_zip (by omega)]; exact e
theorem ps_good {cs : List Cn} {ps : List (Cn × Int)} {m : Nat} (h : csP ps = cs) (g : ∀ n ∈ cs, n.good m) : ∀ p ∈ ps, p.1.good m := fun p hp => g _ (by rw [← h]; exact List.mem_map.mpr ⟨p, hp, rfl⟩)
theorem ps_len {cs : List Cn} {ps : List (Cn × Int)} (h : csP ps = cs) : ps.length = cs.length := by rw [← h]; unfold csP; rw [List.length_map]
theorem idx_of {m : Nat} {d : D} (h : idxB (m : Int) d = true) : ∃ k : Nat, d = .int (k : Int) ∧ k < m := by
  cases d with
  | int i =>
    have h : decide (0 ≤ i ∧ i < (m : Int)) = true := h
    obtain ⟨h0, h1⟩ := of_decide_eq_true h
    obtain ⟨k, rfl⟩ := Int.eq_ofNat_of_zero_le h0
    exact ⟨k, rfl, by omega⟩
  | _ => cases h
theorem idx_own {d : D} {k : Bool} (h : wholeB d = some k) : d.own = false := by cases d <;> first | rfl | cases h
def okDo (C N BR ND : Addr) (xs : List Str) (cs : List Cn) (s d : D) (Q : D → Prop) (E : XD → Prop) : Prop :=
  VR s ∧ wholeB d ≠ none ∧ (nmsB (tupz s) cs.length = false → E ⟨BR, ["row", "what"], [s, .str "standing"]⟩) ∧ (nmsB (tupz s) cs.length = true → idxB xs.length d = false → E ⟨ND, ["deed"], [d]⟩)
def spCanDo (C N BR ND : Addr) : DSp := fun ds Q E => ∃ xs cs s d, ds = [netO C N xs cs, s, d] ∧ NetOk xs cs ∧ okDo C N BR ND xs cs s d Q E ∧ ∀ (ps : List (Cn × Int)) (k : Nat), nmsB (tupz s) cs.length = true → csP ps = cs → tupz s = .tup (iL (stI ps)) → d = .int (k : Int) → k < xs.length → Q (.bl (fits ps k))
def spDeeds (C N BR : Addr) : DSp := fun ds Q E => ∃ xs cs s, ds = [netO C N xs cs, s] ∧ NetOk xs cs ∧ VR s ∧ (nmsB (tupz s) cs.length = false → E ⟨BR, ["row", "what"], [s, .str "standing"]⟩) ∧ ∀ ps : List (Cn × Int), nmsB (tupz s) cs.length = true → csP ps = cs → tupz s = .tup (iL (stI ps)) → Q (.tup (iN ((List.range xs.length).filter (fits ps))))
def spDoneAt (C N BR ND NX : Addr) : DSp := fun ds Q E => ∃ xs cs s d, ds = [netO C N xs cs, s, d] ∧ NetOk xs cs ∧ okDo C N BR ND xs cs s d Q E ∧ ((nmsB (tupz s) cs.length = true → ∃ l, s = .tup l)) ∧ ∀ (ps : List (Cn × Int)) (k : Nat), nmsB (tupz s) cs.length = true → csP ps = cs → tupz s = .tup (iL (stI ps)) → d = .int (k : Int) → k < xs.length → (fits ps k = true → Q (.tup (iL (stI (moved ps k))))) ∧ (fits ps k = false → E ⟨NX, ["index"], [.int 0]⟩)
section
variable {P : Program} {w : World} {K : PySem.W.Frag} {mg : Str → Option Value} {base : Heap} {C N BR ND NX : Addr}
abbrev s_canDo : Stmt := top 38
theorem sc_canDo : FnScope ["net", "standing", "deed", "row"] ["net", "standing", "deed"] (defScope s_canDo) := ⟨rfl, rfl, rfl, by decide +kernel, rfl, by decide +kernel, by decide +kernel⟩
theorem ok_canDo {f : Addr} {fd : FuncData} (F : Fun K "can_do" "can_do" s_canDo f fd) (d1 : Def P w K mg base 4 "need_standing" (spNeedSt C N BR)) (d2 : Def P w K mg base 4 "need_deed" (spNeedDeed C N ND)) (d3 : Def P w K mg base 1 "lets" (spLets C N)) : FnOk P w K mg base (L2.CX P w) 5 f fd ["net", "standing", "deed"] (lift K (spCanDo C N BR ND)) := by
  refine def_ok F sc_canDo (fun ds Q E ⟨_, _, _, _, e, _⟩ => by rw [e]; rfl) fun ds Q E ⟨xs, cs, s, d, e, nk, ⟨hv, hd, e1, e2⟩, q⟩ => ?_
  subst e
  have so := hv.1.own
  obtain ⟨k, hk⟩ := Option.ne_none_iff_exists'.mp hd
  have dw := idx_own hk
  refine wb_cons (ws_set 3 rfl (.inl rfl) (wo_call d1 (Nat.le_of_ble_eq_true rfl) rfl (wa_cons (we_var 0 rfl (.inl rfl) rfl rfl (wa_cons (we_var 1 rfl (.inl rfl) rfl so (wa_nil ⟨xs, cs, s, rfl, nk.l, hv, fun h => ?_, fun h => e1 h⟩)))))))
  obtain ⟨ps, hp, hs⟩ := st_of h
  rw [hs]
  refine wb_cons (ws_expr (Q := fun _ => True) (wo_call d2 (Nat.le_of_ble_eq_true rfl) rfl (wa_cons (we_var 0 rfl (.inl rfl) rfl rfl (wa_cons (we_var 2 rfl (.inl rfl) rfl dw (wa_nil ⟨xs, cs, d, k, rfl, nk.x, hk, fun hi => ?_, fun hi => e2 h hi⟩)))))))
  obtain ⟨j, rfl, hj⟩ := idx_of hi
  refine wb_cons (ws_ret (wo_of_we (we_call d3 (Nat.le_of_ble_eq_true rfl) rfl (wa_cons (we_var 0 rfl (.inl rfl) rfl rfl (wa_cons (we_var 3 rfl (.inl rfl) rfl rfl (wa_cons (we_var 2 rfl (.inl rfl) rfl rfl ?_)))))))))
  exact wa_nil ⟨xs, ps, xs.length, j, by rw [hp], by rw [ps_len hp]; exact nk.l, ps_good hp nk.g, hj, q ps j h hp hs rfl hj⟩
abbrev s_netDeeds : Stmt := top 39
theorem sc_netDeeds : FnScope ["net", "standing", "row", "deed"] ["net", "standing"] (defScope s_netDeeds) := ⟨rfl, rfl, rfl, by decide +kernel, rfl, by decide +kernel, by decide +kernel⟩
theorem ok_netDeeds {f : Addr} {fd : FuncData} (B : Bl mg) (NF : CFx K mg "Net" N nN) (F : Fun K "net_deeds" "net_deeds" s_netDeeds f fd) (d1 : Def P w K mg base 4 "need_standing" (spNeedSt C N BR)) (d3 : Def P w K mg base 1 "lets" (spLets C N)) : FnOk P w K mg base (L2.CX P w) 5 f fd ["net", "standing"] (lift K (spDeeds C N BR)) := by
  refine def_ok F sc_netDeeds (fun ds Q E ⟨_, _, _, e, _⟩ => by rw [e]; rfl) fun ds Q E ⟨xs, cs, s, e, nk, hv, e1, q⟩ => ?_
  subst e
  have so := hv.1.own
  refine wb_cons (ws_set 2 rfl (.inr rfl) (wo_call d1 (Nat.le_of_ble_eq_true rfl) rfl (wa_cons (we_var 0 rfl (.inr (.inl rfl)) rfl rfl (wa_cons (we_var 1 rfl (.inl rfl) rfl so (wa_nil ⟨xs, cs, s, rfl, nk.l, hv, fun h => ?_, fun h => e1 h⟩)))))))
  obtain ⟨ps, hp, hs⟩ := st_of h
  have q := q ps h hp hs
  rw [hs]
  have hx := nk.x
  refine wb_cons (ws_ret (wo_callTy rfl B.tuple boot_tuple (wa_cons (we_lc [("deed", 3)] (by dsimp only [Cf.blk]; decide +kernel) (wi_range1 rfl B.range (we_of_wo (wo_callB rfl B.len boot_len (wa_cons (we_fld ?_)))))))))
  refine we_var 0 rfl (.inr (.inl rfl)) rfl rfl ⟨N, nN, _, _, rfl, NF.cl.cl, NF.no _ (by simp [nN]), rfl, wa_nil (vc_lenT ⟨_, rfl, by rw [sL_len]; omega, ?_⟩)⟩
  rw [sL_len, Int.toNat_natCast]
  refine ⟨by rw [rng_len]; exact sz (by omega), fun pre acc => acc = iN ((List.range pre.length).filter (fits ps)), rfl, ?_, ?_⟩
  · intro pre y post acc hsp hle hI
    obtain ⟨rfl, hlt⟩ := rng_split hsp
    rw [Int.zero_add]
    refine wg_name 3 rfl (.inl rfl) (by decide) (wt_val (we_call d3 (Nat.le_of_ble_eq_true rfl) rfl (wa_cons (we_var 0 rfl (.inr (.inl rfl)) rfl rfl (wa_cons (we_var 2 rfl (.inr (.inl rfl)) rfl rfl (wa_cons (we_var 3 rfl (.inl rfl) rfl rfl ?_))))))))
    refine wa_nil ⟨xs, ps, xs.length, pre.length, by rw [hp], by rw [ps_len hp]; exact nk.l, ps_good hp nk.g, hlt, _, rfl, if_b (fun h => ?_) (fun h => ?_)⟩
    · refine we_var 3 rfl (.inl rfl) rfl rfl ?_
      show _ = _
      rw [snoc_len, List.range_succ, List.filter_append, List.filter_cons, if_pos h, hI]
      unfold iN; rw [List.map_append]; rfl
    · show _ = _
      rw [snoc_len, List.range_succ, List.filter_append, List.filter_cons, if_neg (by rw [h]; exact Bool.false_ne_true), List.filter_nil, List.append_nil, hI]
  · intro acc hle hI
    rw [rng_len] at hI
    subst hI
    exact wa_nil (vc_tupL q)
abbrev s_doneAt : Stmt := top 40
theorem sc_doneAt : FnScope ["net", "standing", "deed"] ["net", "standing", "deed"] (defScope s_doneAt) := ⟨rfl, rfl, rfl, by decide +kernel, rfl, by decide +kernel, by decide +kernel⟩
theorem ok_doneAt {f : Addr} {fd : FuncData} (M : XMk P w K mg base "NotDone" NX ["index"]) (F : Fun K "done_at" "done_at" s_doneAt f fd) (d1 : Def P w K mg base 5 "can_do" (spCanDo C N BR ND)) (d3 : Def P w K mg base 1 "moved" (spMoved C N)) : FnOk P w K mg base (L2.CX P w) 6 f fd ["net", "standing", "deed"] (lift K (spDoneAt C N BR ND NX)) := by
  refine def_ok F sc_doneAt (fun ds Q E ⟨_, _, _, _, e, _⟩ => by rw [e]; rfl) fun ds Q E ⟨xs, cs, s, d, e, nk, ⟨hv, hd, e1, e2⟩, ht, q⟩ => ?_
  subst e
  have so := hv.1.own
  obtain ⟨k, hk⟩ := Option.ne_none_iff_exists'.mp hd
  have dw := idx_own hk
  refine wb_cons (ws_if (wt_not (wt_val (we_call d1 (Nat.le_of_ble_eq_true rfl) rfl (wa_cons (we_var 0 rfl (.inl rfl) rfl rfl (wa_cons (we_var 1 rfl (.inl rfl) rfl so (wa_cons (we_var 2 rfl (.inl rfl) rfl dw ?_))))))))))
  refine wa_nil ⟨xs, cs, s, d, rfl, nk, ⟨hv, hd, e1, e2⟩, fun ps j hn hp hs ed hj => ⟨_, rfl, ?_⟩⟩
  subst ed
  obtain ⟨q1, q2⟩ := q ps j hn hp hs rfl hj
  refine if_b (fun h => ?_) (fun h => ?_)
  · have h : fits ps j = false := by simpa using h
    exact wb_cons (ws_raise M (Nat.le_of_ble_eq_true rfl) rfl (wa_cons (we_int (wa_nil ⟨rfl, q2 h⟩))))
  have h : fits ps j = true := by simpa using h
  have hs2 : s = .tup (iL (stI ps)) := by
    obtain ⟨l, rfl⟩ := ht hn
    exact hs
  subst hs2
  refine wb_nil (wb_cons (ws_ret (wo_of_we (we_call d3 (Nat.le_of_ble_eq_true rfl) rfl (wa_cons (we_var 0 rfl (.inl rfl) rfl rfl (wa_cons (we_var 1 rfl (.inl rfl) rfl rfl (wa_cons (we_var 2 rfl (.inl rfl) rfl rfl ?_))))))))))
  exact wa_nil ⟨xs, ps, xs.length, j, by rw [hp], by rw [ps_len hp]; exact nk.l, ps_good hp nk.g, hj, q1 h⟩
end
end K38
end
section
set_option Elab.async false
set_option linter.all false
set_option maxRecDepth 100000
set_option maxHeartbeats 4000000
/-! YU: walked, net_behind, is_net_run. -/
namespace K38
open PySem PySem.Spec PyProof.Rows L2 DL
theorem enum_at {r : List Nat} {pre post : List D} {x : D} (h : enums (iN r) = pre ++ x :: post) : ∃ d : Nat, r[pre.length]? = some d ∧ x = .tup [.int (pre.length : Int), .int (d : Int)] := by
  have e : (enums (iN r))[pre.length]? = some x := by rw [h, List.getElem?_append_right (Nat.le_refl _), Nat.sub_self]; rfl
  obtain ⟨a, b, ha, hb, rfl⟩ := pairs_get e
  have hlt : pre.length < r.length := by have := (List.getElem?_eq_some_iff.mp hb).1; rw [iN_len] at this; exact this
  rw [rng_get (by rw [iN_len]; exact hlt)] at ha
  unfold iN at hb
  rw [List.getElem?_map] at hb
  cases z : r[pre.length]? with
  | none => rw [z] at hb; cases hb
  | some d =>
    rw [z] at hb
    cases ha; cases hb
    exact ⟨d, rfl, by rw [Int.zero_add]⟩
theorem enums_len (l : List D) : (enums l).length = l.length := by
  unfold enums pairs
  rw [List.length_map, List.length_zip, rng_len, Nat.min_self]
/-- a row walked from ps: where it ends, or the place at which it stops -/
def stopAt (ps : List (Cn × Int)) (r : List Nat) (n : Nat) : Prop := ∃ qs d, (r.take n).foldl wP (some ps) = some qs ∧ r[n]? = some d ∧ fits qs d = false
theorem fold_snoc {ps qs : List (Cn × Int)} {r : List Nat} {n d : Nat} (h : (r.take n).foldl wP (some ps) = some qs) (hd : r[n]? = some d) : (r.take (n + 1)).foldl wP (some ps) = if fits qs d = true then some (moved qs d) else none := by
  rw [take_at hd, List.foldl_append, h]; rfl
theorem fold_csP {ps qs : List (Cn × Int)} {r : List Nat} (h : r.foldl wP (some ps) = some qs) : csP qs = csP ps := wP_fst h
theorem stop_none {ps : List (Cn × Int)} {r : List Nat} {n : Nat} (h : stopAt ps r n) : r.foldl wP (some ps) = none := by
  obtain ⟨qs, d, h1, h2, h3⟩ := h
  have hlt := (List.getElem?_eq_some_iff.mp h2).1
  have e : r = r.take (n + 1) ++ r.drop (n + 1) := (List.take_append_drop _ _).symm
  rw [e, List.foldl_append, fold_snoc h1 h2, if_neg (by rw [h3]; exact Bool.false_ne_true), wP_none]
def spWkd (C N : Addr) : DSp := fun ds Q _ => ∃ xs ps r, ds = [netO C N xs (csP ps), .tup (iL (stI ps)), .tup (iN r)] ∧ ps.length ≤ 1000 ∧ (∀ p ∈ ps, p.1.good xs.length) ∧ (∀ x ∈ r, x < xs.length) ∧ r.length ≤ 1000 ∧
  (∀ qs, r.foldl wP (some ps) = some qs → Q (.tup [.tup (iL (stI qs)), .int (r.length : Int)])) ∧ ∀ n, stopAt ps r n → Q (.tup [.non, .int (n : Int)])
def ps0 (cs : List Cn) : List (Cn × Int) := cs.map fun n => (n, n.f)
theorem ps0_cs (cs : List Cn) : csP (ps0 cs) = cs := by unfold csP ps0; rw [List.map_map]; exact List.map_id cs
theorem ps0_st (cs : List Cn) : stI (ps0 cs) = cs.map Cn.f := by unfold stI ps0; rw [List.map_map]; rfl
def spBehind (C N ND NX : Addr) : DSp := fun ds Q E => ∃ xs cs l r, ds = [netO C N xs cs, r] ∧ IsSeq r l ∧ NetOk xs cs ∧ (∀ d ∈ l, wholeB d ≠ none) ∧ l.length ≤ 1000 ∧
  (∀ pre d post, l = pre ++ d :: post → (∀ e ∈ pre, idxB xs.length e = true) → idxB xs.length d = false → E ⟨ND, ["deed"], [d]⟩) ∧
  ∀ q : List Nat, l = iN q → (∀ x ∈ q, x < xs.length) → (∀ qs, q.foldl wP (some (ps0 cs)) = some qs → Q (.tup (iL (stI qs)))) ∧ ∀ n, stopAt (ps0 cs) q n → E ⟨NX, ["index"], [.int (n : Int)]⟩
def spIsRun (C N : Addr) : DSp := fun ds Q _ => ∃ xs cs v, ds = [netO C N xs cs, v] ∧ NetOk xs cs ∧ ((∃ l, v = .lst l ∧ Q (.bl false)) ∨ ∃ l, v = .tup l ∧ (∀ d ∈ l, wholeB d ≠ none) ∧ l.length ≤ 1000 ∧ ((∃ d ∈ l, idxB xs.length d = false) → Q (.bl false)) ∧
  ∀ q : List Nat, l = iN q → (∀ x ∈ q, x < xs.length) → Q (.bl (q.foldl wP (some (ps0 cs))).isSome))
section
variable {P : Program} {w : World} {K : PySem.W.Frag} {mg : Str → Option Value} {base : Heap} {C N BR ND NX : Addr}
abbrev s_wkd : Stmt := top 41
theorem sc_wkd : FnScope ["net", "standing", "row", "index", "deed"] ["net", "standing", "row"] (defScope s_wkd) := ⟨rfl, rfl, rfl, by decide +kernel, rfl, by decide +kernel, by decide +kernel⟩
theorem ok_wkd {f : Addr} {fd : FuncData} (B : Bl mg) (F : Fun K "walked" "walked" s_wkd f fd) (d1 : Def P w K mg base 1 "lets" (spLets C N)) (d2 : Def P w K mg base 1 "moved" (spMoved C N)) : FnOk P w K mg base (L2.CX P w) 2 f fd ["net", "standing", "row"] (lift K (spWkd C N)) := by
  refine def_ok F sc_wkd (fun ds Q E ⟨_, _, _, e, _⟩ => by rw [e]; rfl) fun ds Q E ⟨xs, ps, r, e, hl, hg, hr, hrl, q1, q2⟩ => ?_
  subst e
  refine wb_cons (ws_for [3, 4] (wi_enumT rfl B.enumerate (we_var 2 rfl (.inl rfl) rfl rfl ⟨_, rfl, ?_⟩)))
  refine ⟨fun pre Δ' => ∃ qs c3 c4, Δ' = [some (netO C N xs (csP ps)), some (.tup (iL (stI qs))), some (.tup (iN r)), c3, c4] ∧ (r.take pre.length).foldl wP (some ps) = some qs, ⟨ps, _, _, rfl, rfl⟩, ?_, ?_⟩
  · intro pre x post Δ' hsp ⟨qs, c3, c4, hI, hq⟩
    subst hI
    obtain ⟨d, hd, rfl⟩ := enum_at hsp
    have hcs := fold_csP hq
    have hdm := hr d (List.mem_of_getElem? hd)
    have hql : qs.length ≤ 1000 := by rw [ps_len hcs]; unfold csP; rw [List.length_map]; exact hl
    have hqg : ∀ p ∈ qs, p.1.good xs.length := ps_good hcs fun n hn => by obtain ⟨p, hp, rfl⟩ := List.mem_map.mp hn; exact hg p hp
    have hst := fold_snoc hq hd
    dsimp only
    rw [snoc_len, hst]
    refine wg_tup rfl (wgs_cons (wg_name 3 rfl (.inl rfl) (by decide) (wgs_cons (wg_name 4 rfl (.inl rfl) (by decide) (wgs_nil ?_)))))
    refine wb_cons (ws_if (wt_not (wt_val (we_call d1 (Nat.le_of_ble_eq_true rfl) rfl (wa_cons (we_var 0 rfl (.inl rfl) rfl rfl (wa_cons (we_var 1 rfl (.inl rfl) rfl rfl (wa_cons (we_var 4 rfl (.inl rfl) rfl rfl (wa_nil ⟨xs, qs, xs.length, d, by rw [hcs], hql, hqg, hdm, _, rfl, if_b (fun h => ?_) (fun h => ?_)⟩)))))))))))
    · have h : fits qs d = false := by simpa using h
      exact wb_cons (ws_ret (wo_tup (wa_cons (we_non (wa_cons (we_var 3 rfl (.inl rfl) rfl rfl (wa_nil ⟨sz (Nat.le_of_ble_eq_true rfl), q2 pre.length ⟨qs, d, hq, hd, h⟩⟩)))))))
    · have h : fits qs d = true := by simpa using h
      rw [if_pos h]
      refine wb_nil (wb_cons (ws_set 1 rfl (.inl rfl) (wo_of_we (we_call d2 (Nat.le_of_ble_eq_true rfl) rfl (wa_cons (we_var 0 rfl (.inl rfl) rfl rfl (wa_cons (we_var 1 rfl (.inl rfl) rfl rfl (wa_cons (we_var 4 rfl (.inl rfl) rfl rfl (wa_nil ⟨xs, qs, xs.length, d, by rw [hcs], hql, hqg, hdm, ?_⟩)))))))))))
      exact wb_nil ⟨moved qs d, _, _, rfl, rfl⟩
  · intro Δ' ⟨qs, c3, c4, hI, hq⟩
    subst hI
    have hel : (enums (iN r)).length = r.length := by rw [enums_len, iN_len]
    rw [hel, List.take_length] at hq
    show WB _ _ _ _
    refine wb_cons (ws_ret (wo_tup (wa_cons (we_var 1 rfl (.inl rfl) rfl rfl (wa_cons (we_of_wo (wo_callB rfl B.len boot_len (wa_cons (we_var 2 rfl (.inl rfl) rfl rfl (wa_nil (vc_lenT (wa_nil ⟨sz (Nat.le_of_ble_eq_true rfl), ?_⟩))))))))))))
    rw [iN_len]
    exact q1 qs hq
abbrev s_behind : Stmt := top 42
theorem sc_behind : FnScope ["net", "run", "last", "index"] ["net", "run"] (defScope s_behind) := ⟨rfl, rfl, rfl, by decide +kernel, rfl, by decide +kernel, by decide +kernel⟩
theorem ok_behind {f : Addr} {fd : FuncData} (M : XMk P w K mg base "NotDone" NX ["index"]) (F : Fun K "net_behind" "net_behind" s_behind f fd) (d1 : Def P w K mg base 1 "start" (spStart C N)) (d2 : Def P w K mg base 5 "need_row" (spNeedRow C N ND)) (d3 : Def P w K mg base 2 "walked" (spWkd C N)) : FnOk P w K mg base (L2.CX P w) 6 f fd ["net", "run"] (lift K (spBehind C N ND NX)) := by
  refine def_ok F sc_behind (fun ds Q E ⟨_, _, _, _, e, _⟩ => by rw [e]; rfl) fun ds Q E ⟨xs, cs, l, r, e, hs, nk, hw, hll, e1, q⟩ => ?_
  subst e
  have ro := hs.own
  refine wb_cons (ws_unpackS [2, 3] (we_call d3 (Nat.le_of_ble_eq_true rfl) rfl ?_) (fun env h => by cases env; cases h; rfl))
  refine wa_cons (we_var 0 rfl (.inl rfl) rfl rfl (wa_cons (we_call d1 (Nat.le_of_ble_eq_true rfl) rfl (wa_cons (we_var 0 rfl (.inl rfl) rfl rfl (wa_nil ⟨xs, cs, rfl, nk.l, ?_⟩))))))
  refine wa_cons (we_call d2 (Nat.le_of_ble_eq_true rfl) rfl (wa_cons (we_var 0 rfl (.inl rfl) rfl rfl (wa_cons (we_var 1 rfl (.inl rfl) rfl ro (wa_nil ⟨xs, cs, l, r, rfl, hs, nk.x, hw, fun hall => ?_, e1⟩))))))
  obtain ⟨qr, rfl, hqr⟩ := idx_nat hall
  obtain ⟨q1, q2⟩ := q qr rfl hqr
  rw [iN_len] at hll
  refine wa_nil ⟨xs, ps0 cs, qr, by rw [ps0_cs, ps0_st]; rfl, by unfold ps0; rw [List.length_map]; exact nk.l, ps_good (ps0_cs cs) nk.g, hqr, hll, fun qs hq => ?_, fun n hn => ?_⟩
  · refine wg_tup rfl (wgs_cons (wg_name 2 rfl (.inl rfl) (by decide) (wgs_cons (wg_name 3 rfl (.inl rfl) (by decide) (wgs_nil ?_)))))
    refine wb_cons (ws_if (wt_cmp (we_var 2 rfl (.inl rfl) rfl rfl (we_non (vo_isN ⟨_, rfl, if_f rfl ?_⟩)))))
    exact wb_nil (wb_cons (ws_ret (wo_of_we (we_var 2 rfl (.inl rfl) rfl rfl (q1 qs hq)))))
  · refine wg_tup rfl (wgs_cons (wg_name 2 rfl (.inl rfl) (by decide) (wgs_cons (wg_name 3 rfl (.inl rfl) (by decide) (wgs_nil ?_)))))
    refine wb_cons (ws_if (wt_cmp (we_var 2 rfl (.inl rfl) rfl rfl (we_non (vo_isN ⟨_, rfl, if_t rfl ?_⟩)))))
    exact wb_cons (ws_raise M (Nat.le_of_ble_eq_true rfl) rfl (wa_cons (we_var 3 rfl (.inl rfl) rfl rfl (wa_nil ⟨rfl, q2 n hn⟩))))
abbrev s_isRun : Stmt := top 43
theorem sc_isRun : FnScope ["net", "value", "deed"] ["net", "value"] (defScope s_isRun) := ⟨rfl, rfl, rfl, by decide +kernel, rfl, by decide +kernel, by decide +kernel⟩
theorem ok_isRun {f : Addr} {fd : FuncData} (B : Bl mg) (NF : CFx K mg "Net" N nN) (F : Fun K "is_net_run" "is_net_run" s_isRun f fd) (d1 : Def P w K mg base 1 "start" (spStart C N)) (d2 : Def P w K mg base 2 "is_index" spIndex) (d3 : Def P w K mg base 2 "walked" (spWkd C N)) : FnOk P w K mg base (L2.CX P w) 3 f fd ["net", "value"] (lift K (spIsRun C N)) := by
  refine def_ok F sc_isRun (fun ds Q E ⟨_, _, _, e, _⟩ => by rw [e]; rfl) fun ds Q E ⟨xs, cs, v, e, nk, hv⟩ => ?_
  subst e
  have vo : v.own = false := by rcases hv with ⟨l, rfl, _⟩ | ⟨l, rfl, _⟩ <;> rfl
  refine wb_cons (ws_if (wt_pw (ww_or (wt_not (wt_val (we_of_wo (wo_callB rfl B.isinstance boot_isinstance ?_)))))))
  refine wa_cons (we_var 1 rfl (.inl rfl) rfl vo (wa_cons (we_ty rfl B.tuple boot_tuple (wa_nil ?_))))
  rcases hv with ⟨l, rfl, q⟩ | ⟨l, rfl, hw, hl, q1, q2⟩
  · exact vc_isi (T := "list") (k := false) rfl (by decide +kernel) ⟨_, rfl, if_t rfl (wb_cons (ws_ret (wo_of_we (we_bl q))))⟩
  refine vc_isi (T := "tuple") (k := true) rfl (by decide +kernel) ⟨_, rfl, if_f rfl ?_⟩
  refine ww_or1 (wt_not (wt_val (we_of_wo (wo_callB rfl B.all boot_all (wa_cons (we_lc [("deed", 2)] (by dsimp only [Cf.blk]; decide +kernel) (wi_tup (we_var 1 rfl (.inl rfl) rfl rfl ⟨_, rfl, sz (by omega), fun pre acc => acc = (pre.map (idxB xs.length)).map D.bl, rfl, ?_, ?_⟩))))))))
  · intro pre x post acc hsp hle hI
    obtain ⟨k, hk⟩ := Option.ne_none_iff_exists'.mp (hw x (by rw [hsp]; simp))
    refine wg_name 2 rfl (.inl rfl) (by decide) (we_call d2 (Nat.le_of_ble_eq_true rfl) rfl (wa_cons (we_var 2 rfl (.inl rfl) rfl (idx_own hk) (wa_cons (we_of_wo (wo_callB rfl B.len boot_len (wa_cons (we_fld ?_))))))))
    refine we_var 0 rfl (.inr (.inl rfl)) rfl rfl ⟨N, nN, _, _, rfl, NF.cl.cl, NF.no _ (by simp [nN]), rfl, wa_nil (vc_lenT (wa_nil ⟨x, k, _, rfl, hk, ?_⟩))⟩
    show _ = _
    rw [sL_len, List.map_append, List.map_append, hI]; rfl
  intro acc hle hI
  subst hI
  refine wa_nil (vc_all ⟨_, rfl, ?_⟩)
  rw [List.all_map]
  refine if_b (fun h => ?_) (fun h => ?_)
  · have h : l.all (idxB xs.length) = false := by simpa using h
    rw [← Bool.not_eq_true, List.all_eq_true] at h
    have : ∃ d ∈ l, idxB xs.length d = false := by
      apply Classical.byContradiction
      intro z
      exact h fun x hx => by
        cases e : idxB xs.length x with
        | true => rfl
        | false => exact absurd ⟨x, hx, e⟩ z
    exact wb_cons (ws_ret (wo_of_we (we_bl (q1 this))))
  have h : l.all (idxB xs.length) = true := by simpa using h
  obtain ⟨qr, rfl, hqr⟩ := idx_nat (List.all_eq_true.mp h)
  have q := q2 qr rfl hqr
  rw [iN_len] at hl
  refine wb_nil (wb_cons (ws_ret (wo_of_we (we_cmp (we_ix (we_call d3 (Nat.le_of_ble_eq_true rfl) rfl ?_))))))
  refine wa_cons (we_var 0 rfl (.inr (.inl rfl)) rfl rfl (wa_cons (we_call d1 (Nat.le_of_ble_eq_true rfl) rfl (wa_cons (we_var 0 rfl (.inr (.inl rfl)) rfl rfl (wa_nil ⟨xs, cs, rfl, nk.l, ?_⟩))))))
  refine wa_cons (we_var 1 rfl (.inl rfl) rfl rfl (wa_nil ⟨xs, ps0 cs, qr, by rw [ps0_cs, ps0_st]; rfl, by unfold ps0; rw [List.length_map]; exact nk.l, ps_good (ps0_cs cs) nk.g, hqr, hl, fun qs hq => ?_, fun n hn => ?_⟩))
  · rw [hq] at q
    exact we_int (vi_tup (d := .tup (iL (stI qs))) rfl (we_non (vo_notN q)))
  · rw [stop_none hn] at q
    exact we_int (vi_tup (d := .non) rfl (we_non (vo_notN q)))
end
end K38
end
section
set_option Elab.async false
set_option linter.all false
set_option maxRecDepth 100000
set_option maxHeartbeats 4000000
/-! YV: the law's own: shuffled, start, walked from nothing, rows of nets, drawn rows. -/
namespace K38
open PySem PySem.Spec PyProof.Rows L2 DL
theorem seqIndex_nat {n k : Nat} (h : k < n) : seqIndex? (k : Int) n = some k := by
  have : ixN n (k : Int) = some k := by
    unfold ixN
    rw [if_pos (Int.natCast_nonneg k), if_pos (by omega), Int.toNat_natCast]
  exact (ixN_seq this).1
theorem cut_last {l : List D} {x : D} : DL.cutD (l ++ [x]) (some (-1)) none = [x] := by
  unfold DL.cutD
  rw [HT.sIx_none]
  show ((l ++ [x]).drop (if (-1 : Int) < 0 then ((-1 : Int) + ((l ++ [x]).length : Int)).toNat else min (-1 : Int).toNat (l ++ [x]).length)).take ((l ++ [x]).length - (if (-1 : Int) < 0 then ((-1 : Int) + ((l ++ [x]).length : Int)).toNat else min (-1 : Int).toNat (l ++ [x]).length)) = _
  rw [if_pos (by decide), show ((-1 : Int) + ((l ++ [x]).length : Int)).toNat = l.length by rw [snoc_len]; omega, List.drop_left, snoc_len, show l.length + 1 - l.length = 1 by omega]
  rfl
def okSt (cs : List Cn) (o : Option (List (Cn × Int))) : Prop := ∀ ps, o = some ps → csP ps = cs
theorem okSt.fold {cs : List Cn} {o : Option (List (Cn × Int))} (h : okSt cs o) (r : List Nat) : okSt cs (r.foldl wP o) := fun ps e => by
  cases o with
  | none => rw [wP_none] at e; cases e
  | some qs => rw [fold_csP e]; exact h qs rfl
theorem erase_perm {α : Type} : ∀ {l : List α} {k : Nat} (h : k < l.length), (l[k] :: l.eraseIdx k).Perm l
  | a :: l, 0, _ => .refl _
  | a :: l, k + 1, h => by
    have hk : k < l.length := by simpa using h
    have ih := erase_perm (l := l) (k := k) hk
    show (l[k]'hk :: a :: l.eraseIdx k).Perm (a :: l)
    exact (List.Perm.swap a (l[k]'hk) _).trans (ih.cons a)
theorem stD_frz (o : Option (List (Cn × Int))) : (stD o).frz = stD o := by cases o <;> rfl
def spShuf : DSp := fun ds Q _ => ∃ l : List D, ds = [.pen, .tup l] ∧ l.length ≤ 1000 ∧ ∀ m : List D, m.Perm l → Q (.ol m)
def spLStart : DSp := fun ds Q _ => ∃ xs cs, ds = [netD xs cs] ∧ cs.length ≤ 1000 ∧ Q (.tup (iL (cs.map Cn.f)))
def spWalkedO : DSp := fun ds Q _ => ∃ xs cs o r m, ds = [netD xs cs, stD o, .tup (iN r)] ∧ okSt cs o ∧ cs.length ≤ 1000 ∧ (∀ n ∈ cs, n.good m) ∧ (∀ x ∈ r, x < m) ∧ Q (stD (r.foldl wP o))
structure NR (xs : List Str) (cs : List Cn) : Prop where
  nm : NmsOk xs
  x : xs.length ≤ 5
  g : ∀ n ∈ cs, n.good xs.length
  l : cs.length ≤ 10
def spNetRows : DSp := fun ds Q _ => ds = [.pen] ∧ ∀ xs cs, NR xs cs → Q (netD xs cs)
def spLRow : DSp := fun ds Q _ => ∃ xs cs, ds = [.pen, netD xs cs] ∧ NR xs cs ∧ ∀ r : List Nat, (∀ x ∈ r, x < xs.length) → r.length ≤ 20 → Q (.tup (iN r))
section
variable {P : Program} {w : World} {K : PySem.W.Frag} {mg : Str → Option Value} {base : Heap} {C N BR ND NX : Addr}
abbrev s_shuf : Stmt := top 48
theorem sc_shuf : FnScope ["pen", "some", "left", "found", "lap"] ["pen", "some"] (defScope s_shuf) := ⟨rfl, rfl, rfl, by decide +kernel, rfl, by decide +kernel, by decide +kernel⟩
theorem ok_shuf {f : Addr} {fd : FuncData} (B : Bl mg) (F : Fun K "_law_shuffled" "_law_shuffled" s_shuf f fd) (d0 : Def P w K mg base 1 "_law_draw" spDraw) : FnOk P w K mg base (L2.CX P w) 2 f fd ["pen", "some"] (lift K spShuf) := by
  refine def_ok F sc_shuf (fun ds Q E ⟨_, e, _⟩ => by rw [e]; rfl) fun ds Q E ⟨l, e, hl, q⟩ => ?_
  subst e
  refine wb_cons (ws_parO 2 3 rfl rfl (by decide) rfl rfl (wo_callTy rfl B.list boot_list (wa_cons (we_var 1 rfl (.inl rfl) rfl rfl (wa_nil (vc_lstT ?_))))) (fun env h => by cases env; cases h; rfl))
  refine wo_lst (wa_nil ⟨sz (Nat.le_of_ble_eq_true rfl), ?_⟩)
  refine wb_cons (ws_for [4] (wi_range1 rfl B.range (we_of_wo (wo_callB rfl B.len boot_len (wa_cons (we_var 1 rfl (.inl rfl) rfl rfl (wa_nil (vc_lenT ⟨_, rfl, by omega, ?_⟩))))))))
  rw [Int.toNat_natCast]
  refine ⟨fun pre Δ' => ∃ es fs c4, Δ' = [some .pen, some (.tup l), some (.ol es), some (.ol fs), c4] ∧ (fs ++ es).Perm l ∧ fs.length = pre.length, ⟨l, [], _, rfl, .refl _, rfl⟩, ?_, ?_⟩
  · intro pre x post Δ' hsp ⟨es, fs, c4, hI, hp, hf⟩
    subst hI
    obtain ⟨rfl, hlt⟩ := rng_split hsp
    have hlen := hp.length_eq
    rw [List.length_append] at hlen
    refine wg_name 4 rfl (.inl rfl) (by decide) ?_
    refine wb_cons (ws_appPop 3 2 (by decide) rfl (.inl rfl) rfl rfl (.inl rfl) rfl (we_call d0 (Nat.le_of_ble_eq_true rfl) rfl ?_))
    refine wa_cons (we_var 0 rfl (.inl rfl) rfl rfl (wa_cons (we_borrow 2 rfl rfl (we_of_wo (wo_callB rfl B.len boot_len (wa_cons (we_var 2 rfl (.inl rfl) rfl rfl (wa_nil (vc_lenL ⟨rfl, ?_⟩)))))))))
    refine wa_nil ⟨_, rfl, by omega, by omega, fun a a0 a1 => ?_⟩
    obtain ⟨k, rfl, hk⟩ := nat_of a0 a1
    have e9 : (2 : Int) ^ 63 = 9223372036854775808 := by decide
    refine ⟨(k : Int), k, es[k], rfl, by rw [e9]; omega, by rw [e9]; omega, seqIndex_nat hk, List.getElem?_eq_getElem hk, by rw [sizeLine_eq]; omega, ?_⟩
    refine wb_nil ⟨es.eraseIdx k, fs ++ [es[k]], _, rfl, ?_, by rw [snoc_len, snoc_len, hf]⟩
    have h1 : (es[k] :: es.eraseIdx k).Perm es := erase_perm hk
    have h2 : (fs ++ [es[k]] ++ es.eraseIdx k).Perm (fs ++ es) := by
      rw [List.append_assoc]
      exact List.Perm.append_left fs h1
    exact h2.trans hp
  · intro Δ' ⟨es, fs, c4, hI, hp, hf⟩
    subst hI
    rw [rng_len] at hf
    have hlen := hp.length_eq
    rw [List.length_append] at hlen
    have he : es = [] := List.length_eq_zero_iff.mp (by omega)
    subst he
    rw [List.append_nil] at hp
    show WB _ _ _ _
    exact wb_cons (ws_retO 3 rfl (.inl rfl) rfl (q fs hp))
abbrev s_lstart : Stmt := top 52
theorem sc_lstart : FnScope ["net", "counter"] ["net"] (defScope s_lstart) := ⟨rfl, rfl, rfl, by decide +kernel, rfl, by decide +kernel, by decide +kernel⟩
theorem ok_lstart {f : Addr} {fd : FuncData} (B : Bl mg) (F : Fun K "_law_start" "_law_start" s_lstart f fd) : FnOk P w K mg base (L2.CX P w) 1 f fd ["net"] (lift K spLStart) := by
  refine def_ok F sc_lstart (fun ds Q E ⟨_, _, e, _⟩ => by rw [e]; rfl) fun ds Q E ⟨xs, cs, e, hl, q⟩ => ?_
  subst e
  refine wb_cons (ws_ret (wo_callTy rfl B.tuple boot_tuple (wa_cons (we_lc [("counter", 1)] (by dsimp only [Cf.blk]; decide +kernel) (wi_tup (we_ix (we_var 0 rfl (.inl rfl) rfl rfl (we_int (vi_tup (d := .tup (cs.map Cn.tp)) rfl ?_)))))))))
  refine ⟨_, rfl, by rw [List.length_map]; exact sz (by omega), fun pre acc => acc = iL ((cs.take pre.length).map Cn.f), rfl, ?_, ?_⟩
  · intro pre d post acc hsp hle hI
    obtain ⟨n, hn, rfl⟩ := map_at hsp
    dsimp only
    rw [snoc_len, take_at hn, List.map_append, hI]
    refine wg_name 1 rfl (.inl rfl) (by decide) (we_ix (we_var 1 rfl (.inl rfl) rfl rfl (we_int (vi_tup (d := .int n.f) rfl ?_))))
    show _ = _
    unfold iL; rw [List.map_append]; rfl
  intro acc hle hI
  rw [List.length_map, List.take_length] at hI
  subst hI
  exact wa_nil (vc_tupL q)
theorem ok_walkedO {f : Addr} {fd : FuncData} (B : Bl mg) (F : Fun K "_law_walked" "_law_walked" s_walked f fd) (d1 : Def P w K mg base 1 "_law_can" spCan) (d2 : Def P w K mg base 1 "_law_done" spDone) : FnOk P w K mg base (L2.CX P w) 2 f fd ["net", "standing", "run"] (lift K spWalkedO) := by
  refine def_ok F sc_walked (fun ds Q E ⟨_, _, _, _, _, e, _⟩ => by rw [e]; rfl) fun ds Q E ⟨xs, cs, o, r, m, e, hok, hl, hg, hr, q⟩ => ?_
  subst e
  refine wb_cons (ws_for [3] (wi_tup (we_var 2 rfl (.inl rfl) rfl rfl ⟨_, rfl, ?_⟩)))
  refine ⟨fun pre Δ' => ∃ a3, Δ' = [some (netD xs cs), some (stD ((r.take pre.length).foldl wP o)), some (.tup (iN r)), a3], ⟨_, rfl⟩, ?_, ?_⟩
  · intro pre x post Δ' hsp ⟨a3, hI⟩
    subst hI
    obtain ⟨d, hd, rfl⟩ := iN_split hsp
    have hdm : d < m := hr d (List.mem_of_getElem? hd)
    refine wg_name 3 rfl (.inl rfl) (by decide) ?_
    dsimp only
    rw [snoc_len, take_at hd, List.foldl_append]
    have hok2 := hok.fold (r.take pre.length)
    cases ho : (r.take pre.length).foldl wP o with
    | none =>
      refine wb_cons (ws_if (wt_cmp (we_var 1 rfl (.inl rfl) rfl rfl (we_non (vo_notN ⟨_, rfl, if_f rfl ?_⟩)))))
      exact wb_nil (wb_nil ⟨some (.int d), rfl⟩)
    | some qs =>
      have hcs := hok2 qs ho
      have hql : qs.length ≤ 1000 := by rw [ps_len hcs]; exact hl
      have hgq := ps_good hcs hg
      subst hcs
      refine wb_cons (ws_if (wt_cmp (we_var 1 rfl (.inl rfl) rfl rfl (we_non (vo_notN ⟨_, rfl, if_t rfl ?_⟩)))))
      refine wb_cons (ws_set 1 rfl (.inl rfl) (wo_of_we (we_if (wt_val (we_call d1 (Nat.le_of_ble_eq_true rfl) rfl ?_)))))
      refine wa_cons (we_var 0 rfl (.inl rfl) rfl rfl (wa_cons (we_var 1 rfl (.inl rfl) rfl rfl (wa_cons (we_var 3 rfl (.inl rfl) rfl rfl (wa_nil ⟨xs, qs, d, m, rfl, hql, hgq, hdm, _, rfl, if_b (fun h => ?_) (fun h => ?_)⟩))))))
      · refine we_call d2 (Nat.le_of_ble_eq_true rfl) rfl (wa_cons (we_var 0 rfl (.inl rfl) rfl rfl (wa_cons (we_var 1 rfl (.inl rfl) rfl rfl (wa_cons (we_var 3 rfl (.inl rfl) rfl rfl (wa_nil ⟨xs, qs, d, m, rfl, hql, hgq, hdm, ?_⟩)))))))
        refine wb_nil (wb_nil ⟨some (.int d), ?_⟩)
        have e : [d].foldl wP (some qs) = some (moved qs d) := by show (if _ then _ else _) = _; rw [if_pos h]
        rw [e]; rfl
      · refine we_non (wb_nil (wb_nil ⟨some (.int d), ?_⟩))
        have e : [d].foldl wP (some qs) = none := by show (if _ then _ else _) = _; rw [if_neg (by rw [h]; exact Bool.false_ne_true)]
        rw [e]; rfl
  · intro Δ' ⟨a3, hI⟩
    rw [iN_len, List.take_of_length_le (Nat.le_refl _)] at hI
    subst hI
    show WB _ _ _ _
    exact wb_cons (ws_ret (wo_of_we (we_var 1 rfl (.inl rfl) rfl (stD_own _) q)))
abbrev s_netRows : Stmt := top 59
theorem sc_netRows : FnScope ["pen", "names", "found", "lap"] ["pen"] (defScope s_netRows) := ⟨rfl, rfl, rfl, by decide +kernel, rfl, by decide +kernel, by decide +kernel⟩
theorem ok_netRows {f : Addr} {fd : FuncData} (B : Bl mg) (F : Fun K "_law_net_rows" "_law_net_rows" s_netRows f fd) (d0 : Def P w K mg base 1 "_law_draw" spDraw) (d1 : Def P w K mg base 4 "_law_names" spNames) (d2 : Def P w K mg base 2 "_law_drawn_counter" spDrawnC) : FnOk P w K mg base (L2.CX P w) 5 f fd ["pen"] (lift K spNetRows) := by
  refine def_ok F sc_netRows (fun ds Q E ⟨e, _⟩ => by rw [e]; rfl) fun ds Q E ⟨e, q⟩ => ?_
  subst e
  refine wb_cut (fun Δ' => ∃ xs, Δ' = [some .pen, some (.tup (sL xs)), none, none] ∧ NmsOk xs ∧ xs.length ≤ 5) ?_ ?_
  · refine ws_set 1 rfl (.inr rfl) (wo_of_we (we_call d1 (Nat.le_of_ble_eq_true rfl) rfl (wa_cons (we_var 0 rfl (.inr (.inl rfl)) rfl rfl (wa_cons (we_bin (we_int (we_call d0 (Nat.le_of_ble_eq_true rfl) rfl ?_))))))))
    refine wa_cons (we_var 0 rfl (.inr (.inl rfl)) rfl rfl (wa_cons (we_int (wa_nil ⟨_, rfl, by decide, by decide, fun r r0 r1 => vo_add ?_⟩))))
    obtain ⟨m', rfl, hm'⟩ := nat_of (n := 4) r0 r1
    refine wa_nil ⟨1 + m', by show [D.pen, D.int (1 + (m' : Int))] = _; congr 2, by omega, by omega, fun xs nm hl => ⟨xs, rfl, nm, by omega⟩⟩
  intro Δ' ⟨xs, hI, nm, hx5⟩
  subst hI
  refine wb_cons (ws_setLc 2 [("lap", 3)] (by dsimp only [Cf.blk]; decide +kernel) rfl rfl (wi_range1 rfl B.range (we_call d0 (Nat.le_of_ble_eq_true rfl) rfl ?_)))
  refine wa_cons (we_var 0 rfl (.inr (.inl rfl)) rfl rfl (wa_cons (we_int (wa_nil ⟨_, rfl, by decide, by decide, fun r r0 r1 => ⟨_, rfl, by omega, ?_⟩⟩))))
  obtain ⟨m', rfl, hm'⟩ := nat_of (n := 5) r0 r1
  rw [Int.toNat_natCast]
  refine ⟨by rw [rng_len]; exact sz (by omega), fun pre acc => ∃ cs : List Cn, acc = cs.map Cn.tp ∧ (∀ n ∈ cs, n.good xs.length) ∧ cs.length = pre.length, ⟨[], rfl, by simp, rfl⟩, ?_, ?_⟩
  · intro pre d post acc hsp hle ⟨cs, hI, hg, hl⟩
    refine wg_name 3 rfl (.inl rfl) (by decide) (we_call d2 (Nat.le_of_ble_eq_true rfl) rfl ?_)
    refine wa_cons (we_var 0 rfl (.inr (.inl rfl)) rfl rfl (wa_cons (we_of_wo (wo_callB rfl B.len boot_len ?_))))
    refine wa_cons (we_var 1 rfl (.inr (.inl rfl)) rfl rfl (wa_nil (vc_lenT (wa_cons (we_bin (we_int (we_call d0 (Nat.le_of_ble_eq_true rfl) rfl ?_)))))))
    refine wa_cons (we_var 0 rfl (.inr (.inl rfl)) rfl rfl (wa_cons (we_int (wa_nil ⟨_, rfl, by decide, by decide, fun r2 r20 r21 => vo_add ?_⟩))))
    refine wa_nil ⟨xs.length, 1 + r2, by rw [sL_len]; rfl, by omega, by omega, by omega, fun n hn => ?_⟩
    refine ⟨cs ++ [n], by rw [hI, List.map_append]; rfl, fun x hx => ?_, by rw [snoc_len, snoc_len, hl]⟩
    rw [List.mem_append, List.mem_singleton] at hx
    rcases hx with hx | rfl
    · exact hg x hx
    · exact hn
  · intro acc hle ⟨cs, hI, hg, hl⟩
    rw [rng_len] at hl
    subst hI
    refine ws_freeze 2 rfl rfl ?_
    refine wb_cons (ws_ret (wo_tup (wa_cons (we_var 1 rfl (.inr (.inl rfl)) rfl rfl (wa_cons (we_of_wo (wo_callTy rfl B.tuple boot_tuple (wa_cons (we_var 2 rfl (.inl rfl) rfl rfl (wa_nil (vc_tupL ?_)))))))))))
    exact wa_nil ⟨sz (Nat.le_of_ble_eq_true rfl), q xs cs ⟨nm, hx5, hg, by omega⟩⟩
abbrev s_lrow : Stmt := top 60
theorem sc_lrow : FnScope ["pen", "net", "standing", "found", "lap", "can", "deed"] ["pen", "net"] (defScope s_lrow) := ⟨rfl, rfl, rfl, by decide +kernel, rfl, by decide +kernel, by decide +kernel⟩
theorem ok_lrow {f : Addr} {fd : FuncData} (B : Bl mg) (F : Fun K "_law_row" "_law_row" s_lrow f fd) (d0 : Def P w K mg base 1 "_law_draw" spDraw) (dp : Def P w K mg base 2 "_law_pick" spPickL) (d1 : Def P w K mg base 1 "_law_start" spLStart) (d2 : Def P w K mg base 1 "_law_can" spCan) (d3 : Def P w K mg base 2 "_law_walked" spWalkedO) : FnOk P w K mg base (L2.CX P w) 3 f fd ["pen", "net"] (lift K spLRow) := by
  refine def_ok F sc_lrow (fun ds Q E ⟨_, _, e, _⟩ => by rw [e]; rfl) fun ds Q E ⟨xs, cs, e, nr, q⟩ => ?_
  subst e
  have hx5 := nr.x
  have hcl := nr.l
  have hxp : 1 ≤ xs.length := List.length_pos_iff.mpr nr.nm.ne
  refine wb_cons (ws_unpackS [2, 3] (we_tup (wa_cons (we_call d1 (Nat.le_of_ble_eq_true rfl) rfl (wa_cons (we_var 1 rfl (.inr (.inl rfl)) rfl rfl (wa_nil ⟨xs, cs, rfl, by omega, ?_⟩)))))) (fun env h => by cases env; cases h; rfl))
  refine wa_cons (we_tup (wa_nil ⟨sz (Nat.le_of_ble_eq_true rfl), wa_nil ⟨sz (Nat.le_of_ble_eq_true rfl), ?_⟩⟩))
  refine wg_tup rfl (wgs_cons (wg_name 2 rfl (.inr rfl) (by decide) (wgs_cons (wg_name 3 rfl (.inl rfl) (by decide) (wgs_nil ?_)))))
  refine wb_cons (ws_for [4] (wi_range1 rfl B.range (we_call d0 (Nat.le_of_ble_eq_true rfl) rfl ?_)))
  refine wa_cons (we_var 0 rfl (.inl rfl) rfl rfl (wa_cons (we_int (wa_nil ⟨_, rfl, by decide, by decide, fun r r0 r1 => ⟨_, rfl, by omega, ?_⟩⟩))))
  obtain ⟨m', rfl, hm'⟩ := nat_of (n := 12) r0 r1
  rw [Int.toNat_natCast]
  refine ⟨fun pre Δ' => ∃ o r c4 c5, Δ' = [some .pen, some (netD xs cs), some (stD o), some (.tup (iN r)), c4, c5, none] ∧ okSt cs o ∧ (∀ x ∈ r, x < xs.length) ∧ r.length = pre.length, ⟨some (ps0 cs), [], _, _, by rw [show stD (some (ps0 cs)) = .tup (iL (stI (ps0 cs))) from rfl, ps0_st]; rfl, fun ps e => by cases e; exact ps0_cs cs, by simp, rfl⟩, ?_, ?_⟩
  · intro pre d post Δ' hsp ⟨o, r, c4, c5, hI, hok, hr, hrl⟩
    subst hI
    obtain ⟨rfl, hlt⟩ := rng_split hsp
    have so := stD_own o
    refine wg_name 4 rfl (.inl rfl) (by decide) ?_
    refine wb_cons (ws_setLc 5 [("deed", 6)] (by dsimp only [Cf.blk]; decide +kernel) rfl rfl (wi_range1 rfl B.range (we_of_wo (wo_callB rfl B.len boot_len (wa_cons (we_ix (we_var 1 rfl (.inr (.inl rfl)) rfl rfl (we_int (vi_tup (d := .tup (sL xs)) rfl (wa_nil (vc_lenT ⟨_, rfl, by rw [sL_len]; omega, ?_⟩)))))))))))
    rw [sL_len, Int.toNat_natCast]
    refine ⟨by rw [rng_len]; exact sz (by omega), fun pre acc => ∃ cl : List Nat, acc = iN cl ∧ ∀ x ∈ cl, x < xs.length, ⟨[], rfl, by simp⟩, ?_, ?_⟩
    · intro pre2 y post2 acc hsp2 hle ⟨cl, hI, hcl2⟩
      obtain ⟨rfl, hlt2⟩ := rng_split hsp2
      rw [Int.zero_add]
      refine wg_name 6 rfl (.inl rfl) (by decide) (wt_pw (ww_and (wt_cmp (we_var 2 rfl (.inr (.inl rfl)) rfl so (we_non (vo_notN ⟨_, rfl, ?_⟩))))))
      cases o with
      | none => exact if_f rfl ⟨cl, hI, hcl2⟩
      | some ps =>
        have hcs := hok ps rfl
        refine if_t rfl (ww_and1 (wt_val (we_call d2 (Nat.le_of_ble_eq_true rfl) rfl (wa_cons (we_var 1 rfl (.inr (.inl rfl)) rfl rfl (wa_cons (we_var 2 rfl (.inr (.inl rfl)) rfl rfl (wa_cons (we_var 6 rfl (.inl rfl) rfl rfl ?_)))))))))
        refine wa_nil ⟨xs, ps, pre2.length, xs.length, by rw [hcs]; rfl, by rw [ps_len hcs]; omega, ps_good hcs nr.g, hlt2, _, rfl, if_b (fun h => ?_) (fun h => ?_)⟩
        · refine we_var 6 rfl (.inl rfl) rfl rfl ⟨cl ++ [pre2.length], by rw [hI]; unfold iN; rw [List.map_append]; rfl, fun x hx => ?_⟩
          rw [List.mem_append, List.mem_singleton] at hx
          rcases hx with hx | rfl
          · exact hcl2 x hx
          · exact hlt2
        · exact ⟨cl, hI, hcl2⟩
    intro acc hle ⟨cl, hI, hcl2⟩
    subst hI
    rw [rng_len, iN_len] at hle
    refine ws_freeze 5 rfl rfl ?_
    refine wb_cut (fun Δ' => ∃ k c4 c5, Δ' = [some .pen, some (netD xs cs), some (stD o), some (.tup (iN (r ++ [k]))), c4, c5, none] ∧ k < xs.length) ?_ ?_
    · refine ws_set 3 rfl (.inl rfl) (wo_bin (we_var 3 rfl (.inl rfl) rfl rfl (we_tup (wa_cons (WE.mono (Q := fun d => ∃ k : Nat, d = .int (k : Int) ∧ k < xs.length) ?_ ?_)))))
      · refine we_if (wt_pw (ww_and (wt_cmp (we_var 5 rfl (.inl rfl) rfl rfl (we_lst (wa_nil ⟨sz (Nat.le_of_ble_eq_true rfl), vo_neN 1 (OkD.lst fun d hd => ?_) (OkD.lst (by simp)) (by decide) fun k hk => ⟨_, rfl, if_b (fun h => ?_) (fun h => ?_)⟩⟩))))))
        · obtain ⟨x, _, rfl⟩ := List.mem_map.mp hd
          exact .int
        · have hne : cl ≠ [] := fun e => (hk.mp h) (by rw [e]; rfl)
          have hcp : 1 ≤ cl.length := List.length_pos_iff.mpr hne
          refine ww_and1 (wt_cmp (we_call d0 (Nat.le_of_ble_eq_true rfl) rfl (wa_cons (we_var 0 rfl (.inl rfl) rfl rfl (wa_cons (we_int (wa_nil ⟨_, rfl, by decide, by decide, fun r2 r20 r21 => we_int (vo_gt ⟨_, rfl, if_b (fun h2 => ?_) (fun h2 => ?_)⟩)⟩)))))))
          · refine we_call dp (Nat.le_of_ble_eq_true rfl) rfl (wa_cons (we_var 0 rfl (.inl rfl) rfl rfl (wa_cons (we_var 5 rfl (.inl rfl) rfl rfl (wa_nil ⟨iN cl, rfl, by rw [iN_len]; exact hcp, by rw [iN_len]; omega, fun d hd => ?_⟩)))))
            obtain ⟨x, hx, rfl⟩ := List.mem_map.mp hd
            exact ⟨x, rfl, hcl2 x hx⟩
          · refine we_call d0 (Nat.le_of_ble_eq_true rfl) rfl (wa_cons (we_var 0 rfl (.inl rfl) rfl rfl (wa_cons (we_of_wo (wo_callB rfl B.len boot_len (wa_cons (we_ix (we_var 1 rfl (.inr (.inl rfl)) rfl rfl (we_int (vi_tup (d := .tup (sL xs)) rfl (wa_nil (vc_lenT ?_))))))))))))
            refine wa_nil ⟨_, rfl, by rw [sL_len]; omega, by rw [sL_len]; omega, fun a a0 a1 => ?_⟩
            rw [sL_len] at a1
            obtain ⟨k, rfl, hk2⟩ := nat_of a0 a1
            exact ⟨k, rfl, hk2⟩
        · refine we_call d0 (Nat.le_of_ble_eq_true rfl) rfl (wa_cons (we_var 0 rfl (.inl rfl) rfl rfl (wa_cons (we_of_wo (wo_callB rfl B.len boot_len (wa_cons (we_ix (we_var 1 rfl (.inr (.inl rfl)) rfl rfl (we_int (vi_tup (d := .tup (sL xs)) rfl (wa_nil (vc_lenT ?_))))))))))))
          refine wa_nil ⟨_, rfl, by rw [sL_len]; omega, by rw [sL_len]; omega, fun a a0 a1 => ?_⟩
          rw [sL_len] at a1
          obtain ⟨k, rfl, hk2⟩ := nat_of a0 a1
          exact ⟨k, rfl, hk2⟩
      intro d ⟨k, ed, hk⟩
      subst ed
      refine wa_nil ⟨sz (Nat.le_of_ble_eq_true rfl), vo_catT (by rw [iN_len, sizeLine_eq]; show _ + 1 ≤ _; omega) ?_⟩
      refine ⟨k, some (.int (0 + (pre.length : Nat))), some (.lst (iN cl)), ?_, hk⟩
      unfold iN; rw [List.map_append]; rfl
    clear c4 c5
    intro Δ' ⟨k, c4, c5, hI, hk⟩
    subst hI
    refine wb_cons (ws_set 2 rfl (.inr rfl) (wo_of_we (we_call d3 (Nat.le_of_ble_eq_true rfl) rfl (wa_cons (we_var 1 rfl (.inr (.inl rfl)) rfl rfl (wa_cons (we_var 2 rfl (.inr (.inl rfl)) rfl so (wa_cons (we_slice (we_var 3 rfl (.inl rfl) rfl rfl ?_))))))))))
    show WOp _ _ _ _
    refine we_neg (we_int ⟨_, rfl, ⟨_, rfl, ?_⟩⟩)
    show WOp _ _ _ _
    refine vs_tup ?_
    rw [show iN (r ++ [k]) = iN r ++ [D.int (k : Int)] by unfold iN; rw [List.map_append]; rfl, cut_last]
    refine wa_nil ⟨xs, cs, o, [k], xs.length, rfl, hok, by omega, nr.g, fun x hx => by rw [List.mem_singleton] at hx; rw [hx]; exact hk, ?_⟩
    refine wb_nil ⟨[k].foldl wP o, r ++ [k], c4, c5, ?_, hok.fold _, fun x hx => ?_, by rw [snoc_len, snoc_len, hrl]⟩
    · rw [show iN (r ++ [k]) = iN r ++ [D.int (k : Int)] by unfold iN; rw [List.map_append]; rfl, stD_frz]; rfl
    · rw [List.mem_append, List.mem_singleton] at hx
      rcases hx with hx | rfl
      · exact hr x hx
      · exact hk
  · intro Δ' ⟨o, r, c4, c5, hI, hok, hr, hrl⟩
    subst hI
    rw [rng_len] at hrl
    show WB _ _ _ _
    exact wb_cons (ws_ret (wo_of_we (we_var 3 rfl (.inl rfl) rfl rfl (q r hr (by omega)))))
end
end K38
end
section
set_option Elab.async false
set_option linter.all false
set_option maxRecDepth 100000
set_option maxHeartbeats 4000000
/-! YI: _law_caught; BadRow, NoDeed, NotDone made. -/
namespace K38
open PySem PySem.Spec PyProof.Rows L2 DL
theorem sz_lt {n : Nat} (h : n ≤ 1000000) : n < sizeLine := by rw [sizeLine_eq]; omega
abbrev s_caught : Stmt := top 58
theorem sc_caught : FnScope ["action", "e", "found"] ["action"] (defScope s_caught) := ⟨rfl, rfl, rfl, by decide +kernel, rfl, by decide +kernel, by decide +kernel⟩
/-- the classes' places -/
structure XG (K : PySem.W.Frag) (mg : Str → Option Value) (c0 : Addr) (c1 : Addr) (c2 : Addr) (c3 : Addr) (c4 : Addr) (c5 : Addr) (c6 : Addr) (c7 : Addr) (c8 : Addr) (c9 : Addr) (c10 : Addr) (c11 : Addr) : Prop where
  g0 : mg "BadName" = some (.ref c0)
  g1 : mg "BadNumber" = some (.ref c1)
  g2 : mg "BadRow" = some (.ref c2)
  g3 : mg "BadBehaviour" = some (.ref c3)
  g4 : mg "BadCounter" = some (.ref c4)
  g5 : mg "BadFrame" = some (.ref c5)
  g6 : mg "NoDeed" = some (.ref c6)
  g7 : mg "NoStand" = some (.ref c7)
  g8 : mg "NotDone" = some (.ref c8)
  g9 : mg "TooMany" = some (.ref c9)
  g10 : mg "Unlike" = some (.ref c10)
  g11 : mg "BadText" = some (.ref c11)
def suite : List Stmt := match defBody s_caught with
  | [.Try _ [.ExceptHandler _ _ b _] _ _ _, _] => b
  | _ => []
theorem suite_BadRow {P : Program} {w : World} {K : PySem.W.Frag} {mg : Str → Option Value} {base : Heap} {CS c0 c1 c2 c3 c4 c5 c6 c7 c8 c9 c10 c11 a dd : Addr} {y0 y1 : D} (B : Bl mg) (G : XG K mg c0 c1 c2 c3 c4 c5 c6 c7 c8 c9 c10 c11) (X : XK1 K CS c2 ["what", "row"])
    (k0 : PySem.W.kitOne K (.ref c2) (.ref c0) = some false)
    (k1 : PySem.W.kitOne K (.ref c2) (.ref c1) = some false)
    (k2 : PySem.W.kitOne K (.ref c2) (.ref c2) = some true)
    (k3 : PySem.W.kitOne K (.ref c2) (.ref c3) = some false)
    (k4 : PySem.W.kitOne K (.ref c2) (.ref c4) = some false)
    (k5 : PySem.W.kitOne K (.ref c2) (.ref c5) = some false)
    (k6 : PySem.W.kitOne K (.ref c2) (.ref c6) = some false)
    (k7 : PySem.W.kitOne K (.ref c2) (.ref c7) = some false)
    (k8 : PySem.W.kitOne K (.ref c2) (.ref c8) = some false)
    (k9 : PySem.W.kitOne K (.ref c2) (.ref c9) = some false)
    (k10 : PySem.W.kitOne K (.ref c2) (.ref c10) = some false)
    (k11 : PySem.W.kitOne K (.ref c2) (.ref c11) = some false)
    : WB ⟨P, w, K, mg, base, ["action", "e", "found"], defScope s_caught, 0, fun _ => False, fun _ => true, some (a, c2, dd), some ⟨[], none⟩⟩ suite ⟨fun _ => False, fun d _ => d = .tup [.str "row", y0, y1], fun _ => False, fun _ => False⟩ [none, some (.xc a c2 dd ["row", "what"] [y1, y0]), none] := by
  refine wb_cons (ws_set 2 rfl (.inl rfl) (wo_lst (wa_nil ⟨sz (Nat.le_of_ble_eq_true rfl), ?_⟩)))
  refine wb_cons (ws_ifE 1 B.isinstance rfl rfl (.inl rfl) rfl X.ec rfl G.g0 k0 (if_f rfl ?_) rfl)
  refine wb_cons (ws_ifE 1 B.isinstance rfl rfl (.inl rfl) rfl X.ec rfl G.g1 k1 (if_f rfl ?_) rfl)
  refine wb_cons (ws_ifE 1 B.isinstance rfl rfl (.inl rfl) rfl X.ec rfl G.g2 k2 (if_t rfl ?_) rfl)
  refine wb_cons (ws_app 2 rfl (.inl rfl) rfl (we_tup (wa_cons (we_str (wa_cons (we_xfld rfl X.xf (X.no _ (by simp)) (we_var 1 rfl (.inl rfl) rfl rfl ⟨_, _, _, rfl, rfl, wa_cons (we_xfld rfl X.xf (X.no _ (by simp)) (we_var 1 rfl (.inl rfl) rfl rfl ⟨_, _, _, rfl, rfl, wa_nil ⟨sz (Nat.le_of_ble_eq_true rfl), sz_lt (Nat.le_of_ble_eq_true rfl), ?_⟩⟩))⟩)))))))
  refine wb_nil ?_
  refine wb_cons (ws_ifE 1 B.isinstance rfl rfl (.inl rfl) rfl X.ec rfl G.g3 k3 (if_f rfl ?_) rfl)
  refine wb_cons (ws_ifE 1 B.isinstance rfl rfl (.inl rfl) rfl X.ec rfl G.g4 k4 (if_f rfl ?_) rfl)
  refine wb_cons (ws_ifE 1 B.isinstance rfl rfl (.inl rfl) rfl X.ec rfl G.g5 k5 (if_f rfl ?_) rfl)
  refine wb_cons (ws_ifE 1 B.isinstance rfl rfl (.inl rfl) rfl X.ec rfl G.g6 k6 (if_f rfl ?_) rfl)
  refine wb_cons (ws_ifE 1 B.isinstance rfl rfl (.inl rfl) rfl X.ec rfl G.g7 k7 (if_f rfl ?_) rfl)
  refine wb_cons (ws_ifE 1 B.isinstance rfl rfl (.inl rfl) rfl X.ec rfl G.g8 k8 (if_f rfl ?_) rfl)
  refine wb_cons (ws_ifE 1 B.isinstance rfl rfl (.inl rfl) rfl X.ec rfl G.g9 k9 (if_f rfl ?_) rfl)
  refine wb_cons (ws_ifE 1 B.isinstance rfl rfl (.inl rfl) rfl X.ec rfl G.g10 k10 (if_f rfl ?_) rfl)
  refine wb_cons (ws_ifE 1 B.isinstance rfl rfl (.inl rfl) rfl X.ec rfl G.g11 k11 (if_f rfl ?_) rfl)
  refine ws_freeze 2 rfl rfl ?_
  refine wb_cons (ws_ret (wo_of_we (we_if (wt_cmp (we_of_wo (wo_callB rfl B.len boot_len (wa_cons (we_var 2 rfl (.inl rfl) rfl rfl (wa_nil (vc_lenL (we_int (vo_eqi ⟨_, rfl, if_t rfl ?_⟩))))))))))))
  exact we_ix (we_var 2 rfl (.inl rfl) rfl rfl (we_int (vi_lst (d := .tup [.str "row", y0, y1]) rfl rfl)))
theorem suite_NoDeed {P : Program} {w : World} {K : PySem.W.Frag} {mg : Str → Option Value} {base : Heap} {CS c0 c1 c2 c3 c4 c5 c6 c7 c8 c9 c10 c11 a dd : Addr} {y0 : D} (B : Bl mg) (G : XG K mg c0 c1 c2 c3 c4 c5 c6 c7 c8 c9 c10 c11) (X : XK1 K CS c6 ["deed"])
    (k0 : PySem.W.kitOne K (.ref c6) (.ref c0) = some false)
    (k1 : PySem.W.kitOne K (.ref c6) (.ref c1) = some false)
    (k2 : PySem.W.kitOne K (.ref c6) (.ref c2) = some false)
    (k3 : PySem.W.kitOne K (.ref c6) (.ref c3) = some false)
    (k4 : PySem.W.kitOne K (.ref c6) (.ref c4) = some false)
    (k5 : PySem.W.kitOne K (.ref c6) (.ref c5) = some false)
    (k6 : PySem.W.kitOne K (.ref c6) (.ref c6) = some true)
    (k7 : PySem.W.kitOne K (.ref c6) (.ref c7) = some false)
    (k8 : PySem.W.kitOne K (.ref c6) (.ref c8) = some false)
    (k9 : PySem.W.kitOne K (.ref c6) (.ref c9) = some false)
    (k10 : PySem.W.kitOne K (.ref c6) (.ref c10) = some false)
    (k11 : PySem.W.kitOne K (.ref c6) (.ref c11) = some false)
    : WB ⟨P, w, K, mg, base, ["action", "e", "found"], defScope s_caught, 0, fun _ => False, fun _ => true, some (a, c6, dd), some ⟨[], none⟩⟩ suite ⟨fun _ => False, fun d _ => d = .tup [.str "deed", y0], fun _ => False, fun _ => False⟩ [none, some (.xc a c6 dd ["deed"] [y0]), none] := by
  refine wb_cons (ws_set 2 rfl (.inl rfl) (wo_lst (wa_nil ⟨sz (Nat.le_of_ble_eq_true rfl), ?_⟩)))
  refine wb_cons (ws_ifE 1 B.isinstance rfl rfl (.inl rfl) rfl X.ec rfl G.g0 k0 (if_f rfl ?_) rfl)
  refine wb_cons (ws_ifE 1 B.isinstance rfl rfl (.inl rfl) rfl X.ec rfl G.g1 k1 (if_f rfl ?_) rfl)
  refine wb_cons (ws_ifE 1 B.isinstance rfl rfl (.inl rfl) rfl X.ec rfl G.g2 k2 (if_f rfl ?_) rfl)
  refine wb_cons (ws_ifE 1 B.isinstance rfl rfl (.inl rfl) rfl X.ec rfl G.g3 k3 (if_f rfl ?_) rfl)
  refine wb_cons (ws_ifE 1 B.isinstance rfl rfl (.inl rfl) rfl X.ec rfl G.g4 k4 (if_f rfl ?_) rfl)
  refine wb_cons (ws_ifE 1 B.isinstance rfl rfl (.inl rfl) rfl X.ec rfl G.g5 k5 (if_f rfl ?_) rfl)
  refine wb_cons (ws_ifE 1 B.isinstance rfl rfl (.inl rfl) rfl X.ec rfl G.g6 k6 (if_t rfl ?_) rfl)
  refine wb_cons (ws_app 2 rfl (.inl rfl) rfl (we_tup (wa_cons (we_str (wa_cons (we_xfld rfl X.xf (X.no _ (by simp)) (we_var 1 rfl (.inl rfl) rfl rfl ⟨_, _, _, rfl, rfl, wa_nil ⟨sz (Nat.le_of_ble_eq_true rfl), sz_lt (Nat.le_of_ble_eq_true rfl), ?_⟩⟩)))))))
  refine wb_nil ?_
  refine wb_cons (ws_ifE 1 B.isinstance rfl rfl (.inl rfl) rfl X.ec rfl G.g7 k7 (if_f rfl ?_) rfl)
  refine wb_cons (ws_ifE 1 B.isinstance rfl rfl (.inl rfl) rfl X.ec rfl G.g8 k8 (if_f rfl ?_) rfl)
  refine wb_cons (ws_ifE 1 B.isinstance rfl rfl (.inl rfl) rfl X.ec rfl G.g9 k9 (if_f rfl ?_) rfl)
  refine wb_cons (ws_ifE 1 B.isinstance rfl rfl (.inl rfl) rfl X.ec rfl G.g10 k10 (if_f rfl ?_) rfl)
  refine wb_cons (ws_ifE 1 B.isinstance rfl rfl (.inl rfl) rfl X.ec rfl G.g11 k11 (if_f rfl ?_) rfl)
  refine ws_freeze 2 rfl rfl ?_
  refine wb_cons (ws_ret (wo_of_we (we_if (wt_cmp (we_of_wo (wo_callB rfl B.len boot_len (wa_cons (we_var 2 rfl (.inl rfl) rfl rfl (wa_nil (vc_lenL (we_int (vo_eqi ⟨_, rfl, if_t rfl ?_⟩))))))))))))
  exact we_ix (we_var 2 rfl (.inl rfl) rfl rfl (we_int (vi_lst (d := .tup [.str "deed", y0]) rfl rfl)))
theorem suite_NotDone {P : Program} {w : World} {K : PySem.W.Frag} {mg : Str → Option Value} {base : Heap} {CS c0 c1 c2 c3 c4 c5 c6 c7 c8 c9 c10 c11 a dd : Addr} {y0 : D} (B : Bl mg) (G : XG K mg c0 c1 c2 c3 c4 c5 c6 c7 c8 c9 c10 c11) (X : XK1 K CS c8 ["index"])
    (k0 : PySem.W.kitOne K (.ref c8) (.ref c0) = some false)
    (k1 : PySem.W.kitOne K (.ref c8) (.ref c1) = some false)
    (k2 : PySem.W.kitOne K (.ref c8) (.ref c2) = some false)
    (k3 : PySem.W.kitOne K (.ref c8) (.ref c3) = some false)
    (k4 : PySem.W.kitOne K (.ref c8) (.ref c4) = some false)
    (k5 : PySem.W.kitOne K (.ref c8) (.ref c5) = some false)
    (k6 : PySem.W.kitOne K (.ref c8) (.ref c6) = some false)
    (k7 : PySem.W.kitOne K (.ref c8) (.ref c7) = some false)
    (k8 : PySem.W.kitOne K (.ref c8) (.ref c8) = some true)
    (k9 : PySem.W.kitOne K (.ref c8) (.ref c9) = some false)
    (k10 : PySem.W.kitOne K (.ref c8) (.ref c10) = some false)
    (k11 : PySem.W.kitOne K (.ref c8) (.ref c11) = some false)
    : WB ⟨P, w, K, mg, base, ["action", "e", "found"], defScope s_caught, 0, fun _ => False, fun _ => true, some (a, c8, dd), some ⟨[], none⟩⟩ suite ⟨fun _ => False, fun d _ => d = .tup [.str "done", y0], fun _ => False, fun _ => False⟩ [none, some (.xc a c8 dd ["index"] [y0]), none] := by
  refine wb_cons (ws_set 2 rfl (.inl rfl) (wo_lst (wa_nil ⟨sz (Nat.le_of_ble_eq_true rfl), ?_⟩)))
  refine wb_cons (ws_ifE 1 B.isinstance rfl rfl (.inl rfl) rfl X.ec rfl G.g0 k0 (if_f rfl ?_) rfl)
  refine wb_cons (ws_ifE 1 B.isinstance rfl rfl (.inl rfl) rfl X.ec rfl G.g1 k1 (if_f rfl ?_) rfl)
  refine wb_cons (ws_ifE 1 B.isinstance rfl rfl (.inl rfl) rfl X.ec rfl G.g2 k2 (if_f rfl ?_) rfl)
  refine wb_cons (ws_ifE 1 B.isinstance rfl rfl (.inl rfl) rfl X.ec rfl G.g3 k3 (if_f rfl ?_) rfl)
  refine wb_cons (ws_ifE 1 B.isinstance rfl rfl (.inl rfl) rfl X.ec rfl G.g4 k4 (if_f rfl ?_) rfl)
  refine wb_cons (ws_ifE 1 B.isinstance rfl rfl (.inl rfl) rfl X.ec rfl G.g5 k5 (if_f rfl ?_) rfl)
  refine wb_cons (ws_ifE 1 B.isinstance rfl rfl (.inl rfl) rfl X.ec rfl G.g6 k6 (if_f rfl ?_) rfl)
  refine wb_cons (ws_ifE 1 B.isinstance rfl rfl (.inl rfl) rfl X.ec rfl G.g7 k7 (if_f rfl ?_) rfl)
  refine wb_cons (ws_ifE 1 B.isinstance rfl rfl (.inl rfl) rfl X.ec rfl G.g8 k8 (if_t rfl ?_) rfl)
  refine wb_cons (ws_app 2 rfl (.inl rfl) rfl (we_tup (wa_cons (we_str (wa_cons (we_xfld rfl X.xf (X.no _ (by simp)) (we_var 1 rfl (.inl rfl) rfl rfl ⟨_, _, _, rfl, rfl, wa_nil ⟨sz (Nat.le_of_ble_eq_true rfl), sz_lt (Nat.le_of_ble_eq_true rfl), ?_⟩⟩)))))))
  refine wb_nil ?_
  refine wb_cons (ws_ifE 1 B.isinstance rfl rfl (.inl rfl) rfl X.ec rfl G.g9 k9 (if_f rfl ?_) rfl)
  refine wb_cons (ws_ifE 1 B.isinstance rfl rfl (.inl rfl) rfl X.ec rfl G.g10 k10 (if_f rfl ?_) rfl)
  refine wb_cons (ws_ifE 1 B.isinstance rfl rfl (.inl rfl) rfl X.ec rfl G.g11 k11 (if_f rfl ?_) rfl)
  refine ws_freeze 2 rfl rfl ?_
  refine wb_cons (ws_ret (wo_of_we (we_if (wt_cmp (we_of_wo (wo_callB rfl B.len boot_len (wa_cons (we_var 2 rfl (.inl rfl) rfl rfl (wa_nil (vc_lenL (we_int (vo_eqi ⟨_, rfl, if_t rfl ?_⟩))))))))))))
  exact we_ix (we_var 2 rfl (.inl rfl) rfl rfl (we_int (vi_lst (d := .tup [.str "done", y0]) rfl rfl)))

def okC (BR ND NX : Addr) : XD → Prop := fun y => (∃ a b, y = ⟨BR, ["row", "what"], [b, a]⟩) ∨ (∃ a, y = ⟨ND, ["deed"], [a]⟩) ∨ ∃ a, y = ⟨NX, ["index"], [a]⟩
def toldC : XD → D := fun y => match y.ds with
  | [b, a] => .tup [.str "row", a, b]
  | [a] => if y.ns = (["deed"] : List Str) then .tup [.str "deed", a] else .tup [.str "done", a]
  | _ => .non
theorem toldD {ND : Addr} (a : D) : toldC ⟨ND, ["deed"], [a]⟩ = .tup [.str "deed", a] := by
  show (if (["deed"] : List Str) = (["deed"] : List Str) then D.tup [.str "deed", a] else D.tup [.str "done", a]) = _
  rw [if_pos rfl]
theorem toldX {NX : Addr} (a : D) : toldC ⟨NX, ["index"], [a]⟩ = .tup [.str "done", a] := by
  show (if (["index"] : List Str) = (["deed"] : List Str) then D.tup [.str "deed", a] else D.tup [.str "done", a]) = _
  rw [if_neg (by decide +kernel)]
theorem ok_caught {P : Program} {w : World} {K : PySem.W.Frag} {mg : Str → Option Value} {base : Heap} {CS c0 c1 c2 c3 c4 c5 c6 c7 c8 c9 c10 c11 f : Addr} {fd : FuncData} (B : Bl mg) (g : mg "_law_caught" = some (.ref f)) (F : Fun K "_law_caught" "_law_caught" s_caught f fd) (b : Binds K fd ["action"] []) (gP : mg "PartsError" = some (.ref CS)) (G : XG K mg c0 c1 c2 c3 c4 c5 c6 c7 c8 c9 c10 c11) (X2 : XK1 K CS c2 ["what", "row"]) (X6 : XK1 K CS c6 ["deed"]) (X8 : XK1 K CS c8 ["index"])
    (k2_0 : PySem.W.kitOne K (.ref c2) (.ref c0) = some false)
    (k2_1 : PySem.W.kitOne K (.ref c2) (.ref c1) = some false)
    (k2_2 : PySem.W.kitOne K (.ref c2) (.ref c2) = some true)
    (k2_3 : PySem.W.kitOne K (.ref c2) (.ref c3) = some false)
    (k2_4 : PySem.W.kitOne K (.ref c2) (.ref c4) = some false)
    (k2_5 : PySem.W.kitOne K (.ref c2) (.ref c5) = some false)
    (k2_6 : PySem.W.kitOne K (.ref c2) (.ref c6) = some false)
    (k2_7 : PySem.W.kitOne K (.ref c2) (.ref c7) = some false)
    (k2_8 : PySem.W.kitOne K (.ref c2) (.ref c8) = some false)
    (k2_9 : PySem.W.kitOne K (.ref c2) (.ref c9) = some false)
    (k2_10 : PySem.W.kitOne K (.ref c2) (.ref c10) = some false)
    (k2_11 : PySem.W.kitOne K (.ref c2) (.ref c11) = some false)
    (k6_0 : PySem.W.kitOne K (.ref c6) (.ref c0) = some false)
    (k6_1 : PySem.W.kitOne K (.ref c6) (.ref c1) = some false)
    (k6_2 : PySem.W.kitOne K (.ref c6) (.ref c2) = some false)
    (k6_3 : PySem.W.kitOne K (.ref c6) (.ref c3) = some false)
    (k6_4 : PySem.W.kitOne K (.ref c6) (.ref c4) = some false)
    (k6_5 : PySem.W.kitOne K (.ref c6) (.ref c5) = some false)
    (k6_6 : PySem.W.kitOne K (.ref c6) (.ref c6) = some true)
    (k6_7 : PySem.W.kitOne K (.ref c6) (.ref c7) = some false)
    (k6_8 : PySem.W.kitOne K (.ref c6) (.ref c8) = some false)
    (k6_9 : PySem.W.kitOne K (.ref c6) (.ref c9) = some false)
    (k6_10 : PySem.W.kitOne K (.ref c6) (.ref c10) = some false)
    (k6_11 : PySem.W.kitOne K (.ref c6) (.ref c11) = some false)
    (k8_0 : PySem.W.kitOne K (.ref c8) (.ref c0) = some false)
    (k8_1 : PySem.W.kitOne K (.ref c8) (.ref c1) = some false)
    (k8_2 : PySem.W.kitOne K (.ref c8) (.ref c2) = some false)
    (k8_3 : PySem.W.kitOne K (.ref c8) (.ref c3) = some false)
    (k8_4 : PySem.W.kitOne K (.ref c8) (.ref c4) = some false)
    (k8_5 : PySem.W.kitOne K (.ref c8) (.ref c5) = some false)
    (k8_6 : PySem.W.kitOne K (.ref c8) (.ref c6) = some false)
    (k8_7 : PySem.W.kitOne K (.ref c8) (.ref c7) = some false)
    (k8_8 : PySem.W.kitOne K (.ref c8) (.ref c8) = some true)
    (k8_9 : PySem.W.kitOne K (.ref c8) (.ref c9) = some false)
    (k8_10 : PySem.W.kitOne K (.ref c8) (.ref c10) = some false)
    (k8_11 : PySem.W.kitOne K (.ref c8) (.ref c11) = some false)
    : Caught P w K mg base "_law_caught" (okC c2 c6 c8) toldC (.tup [.str "none"]) := by
  refine caught_mk g F b sc_caught rfl (.inl rfl) fun Xc q cdv h1 h2 h3 h4 h5 h6 h7 => ?_
  subst h1 h2 h3 h4 h5
  refine caught_gives h6 h7 sc_caught (fun _ => rfl) rfl rfl rfl gP rfl (fun y h => ?_) (fun y a dd h => ?_)
  · rcases h with ⟨d, b, e⟩ | ⟨d, e⟩ | ⟨d, e⟩ <;> subst e
    · exact X2.ex
    · exact X6.ex
    · exact X8.ex
  · rcases h with ⟨d, b, e⟩ | ⟨d, e⟩ | ⟨d, e⟩ <;> subst e
    · exact suite_BadRow B G X2 k2_0 k2_1 k2_2 k2_3 k2_4 k2_5 k2_6 k2_7 k2_8 k2_9 k2_10 k2_11
    · rw [toldD]
      exact suite_NoDeed B G X6 k6_0 k6_1 k6_2 k6_3 k6_4 k6_5 k6_6 k6_7 k6_8 k6_9 k6_10 k6_11
    · rw [toldX]
      exact suite_NotDone B G X8 k8_0 k8_1 k8_2 k8_3 k8_4 k8_5 k8_6 k8_7 k8_8 k8_9 k8_10 k8_11
theorem len2 {ws : List V} (h : ws.length = 2) : ∃ y z, ws = [y, z] := by
  match ws, h with
  | [y, z], _ => exact ⟨y, z, rfl⟩
theorem nd_ne {l : List Addr} (h : l.Nodup) {i j : Nat} {a b : Addr} (ha : l[i]? = some a) (hb : l[j]? = some b) (hij : i ≠ j) : (a == b) = false := by
  rw [beq_eq_false_iff_ne]
  intro e
  subst e
  obtain ⟨hi, ei⟩ := List.getElem?_eq_some_iff.mp ha
  obtain ⟨hj, ej⟩ := List.getElem?_eq_some_iff.mp hb
  have := List.pairwise_iff_getElem.mp h
  rcases Nat.lt_or_gt_of_ne hij with z | z
  · exact this i j hi hj z (by rw [ei, ej])
  · exact this j i hj hi z (by rw [ei, ej])
theorem len1 {ws : List V} (h : ws.length = 1) : ∃ y, ws = [y] := by
  match ws, h with
  | [y], _ => exact ⟨y, rfl⟩
section
variable {P : Program} {w : World} {K : PySem.W.Frag} {mg : Str → Option Value} {base : Heap} {C PE : Addr}
theorem sc_x9 : FnScope ["self", "deed"] ["self", "deed"] (defScope (inClass (top 9) 0)) := ⟨rfl, rfl, rfl, by decide +kernel, rfl, by decide +kernel, by decide +kernel⟩
theorem ok_x9 {f : Addr} {fd : FuncData} (T : PeB K mg "PartsError" PE) (O : OexC K C) (n1 : PySem.W.findIn K (.ref C) "deed" = some none) (F : Fun K "__init__" "NoDeed.__init__" (inClass (top 9) 0) f fd) : FnOk P w K mg base CX0 2 f fd ["self", "deed"] (spX C ["deed"]) := by
  refine F.ok sc_x9 (fun vs H Q E ⟨a, ws, e, hl, _⟩ => by rw [e, List.length_cons, hl]; rfl) (fun cdv A outer s H vs Q E hr h => ?_)
  obtain ⟨a, ws, rfl, hl, ha, k⟩ := h
  obtain ⟨y, rfl⟩ := len1 hl
  refine ⟨_, pss_cons (ps_expr (pe_peinit T rfl (pa_cons (pv 0) (pa_cons pe_str pa_nil)))) (pss_one (ps_ost (pv 0) (pv 1))), ?_⟩
  refine ⟨_, rfl, a, C, _, rfl, by decide, O, ha, ?_⟩
  refine ⟨_, rfl, _, rfl, a, C, rfl, O, n1, .inl ⟨ha, fun dx hd hda => ?_⟩⟩
  exact k dx hd hda
theorem sc_x12 : FnScope ["self", "index"] ["self", "index"] (defScope (inClass (top 12) 0)) := ⟨rfl, rfl, rfl, by decide +kernel, rfl, by decide +kernel, by decide +kernel⟩
theorem ok_x12 {f : Addr} {fd : FuncData} (T : PeB K mg "PartsError" PE) (O : OexC K C) (n1 : PySem.W.findIn K (.ref C) "index" = some none) (F : Fun K "__init__" "NotDone.__init__" (inClass (top 12) 0) f fd) : FnOk P w K mg base CX0 2 f fd ["self", "index"] (spX C ["index"]) := by
  refine F.ok sc_x12 (fun vs H Q E ⟨a, ws, e, hl, _⟩ => by rw [e, List.length_cons, hl]; rfl) (fun cdv A outer s H vs Q E hr h => ?_)
  obtain ⟨a, ws, rfl, hl, ha, k⟩ := h
  obtain ⟨y, rfl⟩ := len1 hl
  refine ⟨_, pss_cons (ps_expr (pe_peinit T rfl (pa_cons (pv 0) (pa_cons pe_str pa_nil)))) (pss_one (ps_ost (pv 0) (pv 1))), ?_⟩
  refine ⟨_, rfl, a, C, _, rfl, by decide, O, ha, ?_⟩
  refine ⟨_, rfl, _, rfl, a, C, rfl, O, n1, .inl ⟨ha, fun dx hd hda => ?_⟩⟩
  exact k dx hd hda
theorem sc_x4 : FnScope ["self", "what", "row"] ["self", "what", "row"] (defScope (inClass (top 4) 0)) := ⟨rfl, rfl, rfl, by decide +kernel, rfl, by decide +kernel, by decide +kernel⟩
theorem ok_x4 {f : Addr} {fd : FuncData} (T : PeB K mg "PartsError" PE) (O : OexC K C) (n1 : PySem.W.findIn K (.ref C) "what" = some none) (n2 : PySem.W.findIn K (.ref C) "row" = some none) (F : Fun K "__init__" "BadRow.__init__" (inClass (top 4) 0) f fd) : FnOk P w K mg base CX0 2 f fd ["self", "what", "row"] (spX C ["what", "row"]) := by
  refine F.ok sc_x4 (fun vs H Q E ⟨a, ws, e, hl, _⟩ => by rw [e, List.length_cons, hl]; rfl) (fun cdv A outer s H vs Q E hr h => ?_)
  obtain ⟨a, ws, rfl, hl, ha, k⟩ := h
  obtain ⟨y, z, rfl⟩ := len2 hl
  refine ⟨_, pss_cons (ps_expr (pe_peinit T rfl (pa_cons (pv 0) (pa_cons pe_str pa_nil)))) (pss_cons (ps_ost (pv 0) (pv 1)) (pss_one (ps_ost (pv 0) (pv 2)))), ?_⟩
  refine ⟨_, rfl, a, C, _, rfl, by decide, O, ha, ?_⟩
  refine ⟨_, rfl, _, rfl, a, C, rfl, O, n1, .inl ⟨ha, fun dx hd hda => ?_⟩⟩
  refine ⟨_, rfl, _, rfl, a, C, rfl, O, n2, .inr ⟨dx, _, upd_same, by rw [upd_ne hda, upd_same], Nat.le_of_ble_eq_true rfl, ?_⟩⟩
  have e : upd (upd (upd H dx (exd dx [("what", y)])) a (exo a C (some dx))) dx (exd dx (("row", z) :: [("what", y)])) = upd (upd H dx (exd dx ([("what", y), ("row", z)] : List (Str × V)).reverse)) a (exo a C (some dx)) := by
    funext b
    by_cases h1 : b = dx
    · rw [h1, upd_same, upd_ne hda, upd_same]; rfl
    · rw [upd_ne h1]
      by_cases h2 : b = a
      · rw [h2, upd_same, upd_same]
      · rw [upd_ne h2, upd_ne h1, upd_ne h2, upd_ne h1]
  have q := k dx hd hda
  rw [show (([("what" : Str), "row"].zip [y, z]).reverse) = ([("what", y), ("row", z)] : List (Str × V)).reverse from rfl, ← e] at q
  exact q
end
end K38
end
section
set_option Elab.async false
set_option linter.all false
set_option maxRecDepth 100000
set_option maxHeartbeats 4000000
/-! YK: plain facts of walks. -/
namespace K38
open PySem PySem.Spec PyProof.Rows L2 DL
theorem iN_inj : ∀ {a b : List Nat}, iN a = iN b → a = b
  | [], [], _ => rfl
  | x :: a, y :: b, h => by
    have h : D.int (x : Int) :: iN a = D.int (y : Int) :: iN b := h
    simp only [List.cons.injEq, D.int.injEq] at h
    rw [iN_inj h.2, show x = y by omega]
  | [], _ :: _, h => by cases h
  | _ :: _, [], h => by cases h
theorem iN_iL (r : List Nat) : iN r = iL (r.map fun (n : Nat) => (n : Int)) := by unfold iN iL; rw [List.map_map]; rfl
theorem iN_whole {r : List Nat} : ∀ d ∈ iN r, wholeB d ≠ none := fun d hd => by
  obtain ⟨x, _, rfl⟩ := List.mem_map.mp hd
  exact fun e => nomatch e
theorem iN_idx {r : List Nat} {m : Nat} (h : ∀ x ∈ r, x < m) : ∀ d ∈ iN r, idxB m d = true := fun d hd => by
  obtain ⟨x, hx, rfl⟩ := List.mem_map.mp hd
  have := h x hx
  exact decide_eq_true ⟨by omega, by omega⟩
theorem stop_ex : ∀ {r : List Nat} {ps : List (Cn × Int)}, r.foldl wP (some ps) = none → ∃ n, stopAt ps r n
  | [], _, h => by cases h
  | d :: r, ps, h => by
    rw [List.foldl_cons] at h
    by_cases hf : fits ps d = true
    · have e : wP (some ps) d = some (moved ps d) := by show (if _ then _ else _) = _; rw [if_pos hf]
      rw [e] at h
      obtain ⟨n, qs, d2, h1, h2, h3⟩ := stop_ex h
      refine ⟨n + 1, qs, d2, ?_, h2, h3⟩
      rw [List.take_succ_cons, List.foldl_cons, e]; exact h1
    · exact ⟨0, ps, d, rfl, rfl, by simpa using hf⟩
theorem stop_lt {r : List Nat} {ps : List (Cn × Int)} {n : Nat} (h : stopAt ps r n) : n < r.length := by
  obtain ⟨_, _, _, h2, _⟩ := h
  exact (List.getElem?_eq_some_iff.mp h2).1
theorem take_fold {r : List Nat} {ps : List (Cn × Int)} {a b : Nat} (h : a ≤ b) (hn : (r.take a).foldl wP (some ps) = none) : (r.take b).foldl wP (some ps) = none := by
  have e : r.take b = r.take a ++ (r.drop a).take (b - a) := by rw [← List.take_add, show a + (b - a) = b by omega]
  rw [e, List.foldl_append, hn, wP_none]
theorem take_iff {r : List Nat} {ps : List (Cn × Int)} {n k : Nat} (h : stopAt ps r n) : (r.take (k + 1)).foldl wP (some ps) = none ↔ n ≤ k := by
  obtain ⟨qs, d, h1, h2, h3⟩ := h
  constructor
  · intro hn
    apply Classical.byContradiction
    intro hlt
    have := take_fold (b := n) (by omega) hn
    rw [h1] at this; cases this
  · intro hle
    refine take_fold (a := n + 1) (by omega) ?_
    rw [fold_snoc h1 h2, if_neg (by rw [h3]; exact Bool.false_ne_true)]
theorem stop_uniq {r : List Nat} {ps : List (Cn × Int)} {n k : Nat} (h : stopAt ps r n) (h2 : stopAt ps r k) : n = k := by
  have a := (take_iff (k := k) h).mp ((take_iff (k := k) h2).mpr (Nat.le_refl k))
  have b := (take_iff (k := n) h2).mp ((take_iff (k := n) h).mpr (Nat.le_refl n))
  omega
def chSum (n : Cn) (r : List Nat) : Int := (r.map n.ch).foldr (· + ·) 0
theorem fold_eq : ∀ {r : List Nat} {ps qs : List (Cn × Int)}, r.foldl wP (some ps) = some qs → qs = ps.map fun p => (p.1, p.2 + chSum p.1 r)
  | [], ps, qs, h => by
    cases h
    have : (fun p : Cn × Int => (p.1, p.2 + chSum p.1 [])) = id := by
      funext p
      show (p.1, p.2 + 0) = p
      rw [Int.add_zero]
    rw [this, List.map_id]
  | d :: r, ps, qs, h => by
    rw [List.foldl_cons] at h
    by_cases hf : fits ps d = true
    · have e : wP (some ps) d = some (moved ps d) := by show (if _ then _ else _) = _; rw [if_pos hf]
      rw [e] at h
      rw [fold_eq h]
      unfold moved
      rw [List.map_map]
      congr 1
      funext p
      show (p.1, p.2 + p.1.ch d + chSum p.1 r) = (p.1, p.2 + (p.1.ch d + chSum p.1 r))
      rw [Int.add_assoc]
    · have e : wP (some ps) d = none := by show (if _ then _ else _) = _; rw [if_neg hf]
      rw [e, wP_none] at h; cases h
theorem chSum_perm (n : Cn) {a b : List Nat} (h : a.Perm b) : chSum n a = chSum n b := by
  induction h with
  | nil => rfl
  | cons x _ ih => show n.ch x + chSum n _ = n.ch x + chSum n _; rw [ih]
  | swap x y l => show n.ch y + (n.ch x + chSum n l) = n.ch x + (n.ch y + chSum n l); omega
  | trans _ _ ih1 ih2 => exact ih1.trans ih2
theorem perm_end {a b : List Nat} {ps qs us : List (Cn × Int)} (h : a.Perm b) (ha : a.foldl wP (some ps) = some qs) (hb : b.foldl wP (some ps) = some us) : qs = us := by
  rw [fold_eq ha, fold_eq hb]
  congr 1
  funext p
  rw [chSum_perm p.1 h]
def natD : D → Nat
  | .int i => i.toNat
  | _ => 0
theorem perm_iN {m : List D} {r : List Nat} (h : m.Perm (iN r)) : ∃ q : List Nat, m = iN q ∧ q.Perm r := by
  have h2 := h.map natD
  have e : (iN r).map natD = r := by
    unfold iN
    rw [List.map_map]
    have : (natD ∘ fun (n : Nat) => D.int (n : Int)) = id := by funext n; show ((n : Int)).toNat = n; omega
    rw [this, List.map_id]
  rw [e] at h2
  refine ⟨m.map natD, ?_, h2⟩
  unfold iN
  rw [List.map_map]
  have : ∀ x ∈ m, (((fun (n : Nat) => D.int (n : Int)) ∘ natD) x) = x := fun x hx => by
    have hx := h.mem_iff.mp hx
    obtain ⟨k, _, rfl⟩ := List.mem_map.mp hx
    show D.int (((k : Int)).toNat : Int) = _
    rw [Int.toNat_natCast]
  exact ((List.map_congr_left this).trans (List.map_id' m)).symm
theorem Sd.lit {x : Str} (h : (∀ c ∈ x.cps.toList, c < 16 ^ 8) ∧ x.length ≤ 19) : Sd 200 0 (.str x) := (Sd.str (m := 0) h.1).mono (by have := h.2; omega) (Nat.le_refl 0)
theorem Sd.small2 {d : D} (n k : Nat) (h : Sd n k d) (hn : n ≤ 10000) (hk : k ≤ 8) (a : Str) (ha : Sd 200 0 (.str a)) : Sd 30000 10 (.tup [.str a, d]) :=
  (Sd.tup (n := 10000) (m := 8) fun x hx => by
    simp only [List.mem_cons, List.not_mem_nil, or_false] at hx
    rcases hx with rfl | rfl
    · exact ha.mono (by decide) (by decide)
    · exact h.mono (by omega) hk).mono (by show _ * 2 + 2 ≤ _; decide) (by decide)
theorem Sd.small3 {d : D} (n k : Nat) (h : Sd n k d) (hn : n ≤ 5000) (hk : k ≤ 8) (a b : Str) (ha : Sd 200 0 (.str a)) (hb : Sd 200 0 (.str b)) : Sd 30000 10 (.tup [.str a, .str b, d]) :=
  (Sd.tup (n := 5000) (m := 8) fun x hx => by
    simp only [List.mem_cons, List.not_mem_nil, or_false] at hx
    rcases hx with rfl | rfl | rfl
    · exact ha.mono (by decide) (by decide)
    · exact hb.mono (by decide) (by decide)
    · exact h.mono (by omega) hk).mono (by show _ * 3 + 2 ≤ _; decide) (by decide)
/-- no deed of m -/
structure OddD (m : Nat) (d : D) : Prop where
  w : wholeB d ≠ none
  b : idxB m d = false
  s : Sd 1000 2 d
  o : d.own = false
  f : d.frz = d
structure AllK (P : Program) (w : World) (K : PySem.W.Frag) (mg : Str → Option Value) (base : Heap) (C N BR ND NX : Addr) : Prop where
  B : Bl mg
  rp : mg "repr" = none
  draw : Def P w K mg base 1 "_law_draw" spDraw
  pick : Def P w K mg base 2 "_law_pick" spPickL
  lrow : Def P w K mg base 3 "_law_row" spLRow
  walk : Def P w K mg base 2 "_law_walked" spWalkedO
  lst : Def P w K mg base 1 "_law_start" spLStart
  can : Def P w K mg base 1 "_law_can" spCan
  done : Def P w K mg base 1 "_law_done" spDone
  shuf : Def P w K mg base 2 "_law_shuffled" spShuf
  isRun : Def P w K mg base 3 "is_net_run" (spIsRun C N)
  beh : Def P w K mg base 6 "net_behind" (spBehind C N ND NX)
  deeds : Def P w K mg base 5 "net_deeds" (spDeeds C N BR)
  canDo : Def P w K mg base 5 "can_do" (spCanDo C N BR ND)
  doneAt : Def P w K mg base 6 "done_at" (spDoneAt C N BR ND NX)
  is0 : Def P w K mg base 1 "_law_is" (spIs 0)
  is1 : Def P w K mg base 2 "_law_is" (spIs 1)
  caught : Caught P w K mg base "_law_caught" (okC BR ND NX) toldC (.tup [.str "none"])
end K38
end
section
set_option Elab.async false
set_option linter.all false
set_option maxRecDepth 100000
set_option maxHeartbeats 4000000
/-! YW: _law_row_right. -/
namespace K38
open PySem PySem.Spec PyProof.Rows L2 DL
theorem cut_from {l : List D} {i : Nat} (h : i ≤ l.length) : cutD l (some (i : Int)) none = l.drop i := by
  unfold DL.cutD
  rw [HT.sIx_none, HT.sIx_nat, Nat.min_eq_left h, List.take_of_length_le (by rw [List.length_drop]; exact Nat.le_refl _)]
def spRR (C N : Addr) : DSp := fun ds Q _ => ∃ xs cs, ds = [.pen, netD xs cs, netO C N xs cs] ∧ NR xs cs ∧ Q (.bl true)
section
variable {P : Program} {w : World} {K : PySem.W.Frag} {mg : Str → Option Value} {base : Heap} {C N BR ND NX : Addr}
abbrev s_rr : Stmt := top 61
theorem sc_rr : FnScope ["pen", "net", "made", "run", "last", "stuck", "odd", "at", "wrong", "mixed", "other"] ["pen", "net", "made"] (defScope s_rr) := ⟨rfl, rfl, rfl, by decide +kernel, rfl, by decide +kernel, by decide +kernel⟩
theorem ok_rr {f c0 P0 : Addr} {fd : FuncData} {T : List (Addr × Str)} (hT : (P0, lq "_law_row_right") ∈ T) (A : AllK P w K mg base C N BR ND NX) (F : FunL K "_law_row_right" "_law_row_right" s_rr f fd (.ref c0)) (TB : LamX.TabB base mg c0 P0) : FnT P w K mg base T 9 f fd ["pen", "net", "made"] (spRR C N) := by
  have B := A.B
  refine def_okL T F TB hT sc_rr (fun ds Q E ⟨_, _, e, _⟩ => by rw [e]; rfl) fun ds Q E ⟨xs, cs, e, nr, q⟩ => ?_
  subst e
  have hcl := nr.l
  have hx5 := nr.x
  have hxp : 1 ≤ xs.length := List.length_pos_iff.mpr nr.nm.ne
  have nk : NetOk xs cs := ⟨nr.g, by omega, by omega⟩
  have st0 : stD (some (ps0 cs)) = .tup (iL (cs.map Cn.f)) := by show D.tup (iL (stI (ps0 cs))) = _; rw [ps0_st]
  have ok0 : okSt cs (some (ps0 cs)) := fun ps e => by cases e; exact ps0_cs cs
  refine wb_cut (fun Δ' => ∃ r, Δ' = [some .pen, some (netD xs cs), some (netO C N xs cs), some (.tup (iN r)), none, none, none, none, none, none, none] ∧ (∀ x ∈ r, x < xs.length) ∧ r.length ≤ 20) ?_ ?_
  · exact ws_set 3 rfl (.inr rfl) (wo_of_we (we_call A.lrow (Nat.le_of_ble_eq_true rfl) rfl (wa_cons (we_var 0 rfl (.inl rfl) rfl rfl (wa_cons (we_var 1 rfl (.inr (.inl rfl)) rfl rfl (wa_nil ⟨xs, cs, rfl, nr, fun r hr hl => ⟨r, rfl, hr, hl⟩⟩)))))))
  intro Δ' ⟨r, hI, hr, hrl⟩
  subst hI
  have hwr := iN_whole (r := r)
  have hir := iN_idx hr
  have hlr : (iN r).length ≤ 1000 := by rw [iN_len]; omega
  refine wb_cut (fun Δ' => Δ' = [some .pen, some (netD xs cs), some (netO C N xs cs), some (.tup (iN r)), some (stD (r.foldl wP (some (ps0 cs)))), none, none, none, none, none, none]) ?_ ?_
  · refine ws_set 4 rfl (.inl rfl) (wo_call A.walk (Nat.le_of_ble_eq_true rfl) rfl (wa_cons (we_var 1 rfl (.inr (.inl rfl)) rfl rfl (wa_cons (we_call A.lst (Nat.le_of_ble_eq_true rfl) rfl (wa_cons (we_var 1 rfl (.inr (.inl rfl)) rfl rfl (wa_nil ⟨xs, cs, rfl, by omega, ?_⟩))))))))
    exact wa_cons (we_var 3 rfl (.inr (.inl rfl)) rfl rfl (wa_nil ⟨xs, cs, some (ps0 cs), r, xs.length, by rw [st0]; rfl, ok0, by omega, nr.g, hr, rfl⟩))
  intro Δ' hI
  subst hI
  have hfold := ok0.fold r
  obtain ⟨o, ho⟩ : ∃ o, r.foldl wP (some (ps0 cs)) = o := ⟨_, rfl⟩
  rw [ho] at hfold ⊢
  have so := stD_own o
  refine wb_cons (ws_if (wt_pw (ww_or (wt_not (wt_val (we_call A.is0 (Nat.le_of_ble_eq_true rfl) rfl (wa_cons (we_call A.isRun (Nat.le_of_ble_eq_true rfl) rfl ?_))))))))
  refine wa_cons (we_var 2 rfl (.inr (.inl rfl)) rfl rfl (wa_cons (we_var 3 rfl (.inr (.inl rfl)) rfl rfl (wa_nil ⟨xs, cs, .tup (iN r), rfl, nk, .inr ⟨iN r, rfl, hwr, hlr, fun ⟨d, hd, hb⟩ => ?_, fun q2 e2 _ => ?_⟩⟩))))
  · rw [hir d hd] at hb; cases hb
  have e3 := iN_inj e2
  subst e3
  rw [ho]
  refine wa_cons (we_cmp (we_var 4 rfl (.inl rfl) rfl so (we_non (vo_notN ?_))))
  refine wa_nil ⟨.bl o.isSome, by cases o <;> rfl, isOk_bl, _, rfl, if_f rfl ?_⟩
  refine ww_or1 (wt_cmp (we_call A.isRun (Nat.le_of_ble_eq_true rfl) rfl ?_))
  refine wa_cons (we_var 2 rfl (.inr (.inl rfl)) rfl rfl (wa_cons (we_of_wo (wo_callTy rfl B.list boot_list (wa_cons (we_var 3 rfl (.inr (.inl rfl)) rfl rfl (wa_nil (vc_lstT ?_)))))))) 
  refine wa_nil ⟨xs, cs, .lst (iN r), rfl, nk, .inl ⟨iN r, rfl, we_bl (vo_nisB ⟨_, rfl, if_f rfl ?_⟩)⟩⟩
  refine wb_nil ?_
  refine wb_cut (fun Δ' => Δ' = [some .pen, some (netD xs cs), some (netO C N xs cs), some (.tup (iN r)), some (stD o), none, none, none, none, none, none]) ?_ ?_
  · refine ws_if (wt_pw (ww_and (wt_cmp (we_var 4 rfl (.inl rfl) rfl so (we_non (vo_notN ⟨_, rfl, ?_⟩))))))
    cases o with
    | none => exact if_f rfl (wb_nil rfl)
    | some qs =>
      refine if_t rfl (ww_and1 (wt_not (wt_val (we_call A.is1 (Nat.le_of_ble_eq_true rfl) rfl (wa_cons (we_call A.beh (Nat.le_of_ble_eq_true rfl) rfl ?_))))))
      refine wa_cons (we_var 2 rfl (.inr (.inl rfl)) rfl rfl (wa_cons (we_call A.pick (Nat.le_of_ble_eq_true rfl) rfl (wa_cons (we_var 0 rfl (.inl rfl) rfl rfl (wa_cons (we_lst ?_)))))))
      refine wa_cons (we_var 3 rfl (.inr (.inl rfl)) rfl rfl (wa_cons (we_of_wo (wo_callTy rfl B.list boot_list (wa_cons (we_var 3 rfl (.inr (.inl rfl)) rfl rfl (wa_nil (vc_lstT ?_)))))))) 
      refine wa_nil ⟨sz (Nat.le_of_ble_eq_true rfl), wa_nil ⟨_, rfl, (by show 1 ≤ 2; omega), (by show 2 ≤ 1000; omega), fun d hd => ?_⟩⟩
      have hs : IsSeq d.frz (iN r) := by
        simp only [List.mem_cons, List.not_mem_nil, or_false] at hd
        rcases hd with rfl | rfl
        · exact .inr rfl
        · exact .inl rfl
      clear hd
      refine wa_nil ⟨xs, cs, iN r, d.frz, rfl, hs, nk, hwr, hlr, fun pre d2 post e2 _ hb => ?_, fun q2 e2 _ => ?_⟩
      · rw [hir d2 (by rw [e2]; simp)] at hb; cases hb
      have e3 := iN_inj e2
      subst e3
      refine ⟨fun qs2 h2 => ?_, fun n hn => ?_⟩
      · rw [ho] at h2; cases h2
        have hql : (stI qs).length ≤ 1000 := by unfold stI; rw [List.length_map, ps_len (hfold qs rfl)]; omega
        exact wa_cons (we_var 4 rfl (.inl rfl) rfl rfl (wa_nil ⟨_, rfl, isOk_iL hql, _, rfl, if_f rfl (wb_nil rfl)⟩))
      · rw [stop_none hn] at ho; cases ho
  intro Δ' hI
  subst hI
  refine wb_cut (fun Δ' => ∃ c5, Δ' = [some .pen, some (netD xs cs), some (netO C N xs cs), some (.tup (iN r)), some (stD o), c5, none, none, none, none, none]) ?_ ?_
  · refine ws_if (wt_cmp (we_var 4 rfl (.inl rfl) rfl so (we_non (vo_isN ⟨_, rfl, ?_⟩))))
    cases o with
    | some qs => exact if_f rfl (wb_nil ⟨_, rfl⟩)
    | none =>
      obtain ⟨n, hn⟩ := stop_ex ho
      have hnl := stop_lt hn
      refine if_t rfl ?_
      refine wb_cut (fun Δ' => Δ' = [some .pen, some (netD xs cs), some (netO C N xs cs), some (.tup (iN r)), some .non, some (.int (n : Int)), none, none, none, none, none]) ?_ ?_
      · refine ws_set 5 rfl (.inl rfl) (wo_callB rfl B.min boot_min (wa_cons (we_lc [("at", 7)] (by dsimp only [Cf.blk]; decide +kernel) (wi_range1 rfl B.range (we_of_wo (wo_callB rfl B.len boot_len (wa_cons (we_var 3 rfl (.inr (.inl rfl)) rfl rfl (wa_nil (vc_lenT ⟨_, rfl, by rw [iN_len]; omega, ?_⟩))))))))))
        rw [iN_len, Int.toNat_natCast]
        refine ⟨by rw [rng_len]; exact sz (by omega), fun pre acc => acc = iN ((List.range pre.length).filter fun k => decide (n ≤ k)), rfl, ?_, ?_⟩
        · intro pre y post acc hsp hle hI
          obtain ⟨rfl, hlt⟩ := rng_split hsp
          rw [Int.zero_add]
          have e1 : (pre.length : Int) + 1 = ((pre.length + 1 : Nat) : Int) := by omega
          have et : (iN r).take (pre.length + 1) = iN (r.take (pre.length + 1)) := by unfold iN; rw [List.map_take]
          refine wg_name 7 rfl (.inl rfl) (by decide) (wt_cmp (we_call A.walk (Nat.le_of_ble_eq_true rfl) rfl (wa_cons (we_var 1 rfl (.inr (.inl rfl)) rfl rfl (wa_cons (we_call A.lst (Nat.le_of_ble_eq_true rfl) rfl (wa_cons (we_var 1 rfl (.inr (.inl rfl)) rfl rfl (wa_nil ⟨xs, cs, rfl, by omega, ?_⟩)))))))))
          refine wa_cons (we_slice (we_var 3 rfl (.inr (.inl rfl)) rfl rfl ?_))
          show WOp _ _ _ _
          refine ?_
          show WOp _ _ _ _
          refine we_bin (we_var 7 rfl (.inl rfl) rfl rfl (we_int (vo_add ⟨_, rfl, vs_tup ?_⟩)))
          rw [e1, cut_to (by rw [iN_len]; omega), et]
          refine wa_nil ⟨xs, cs, some (ps0 cs), r.take (pre.length + 1), xs.length, by rw [st0]; rfl, ok0, by omega, nr.g, fun x hx => hr x (List.mem_of_mem_take hx), ?_⟩
          have hti := take_iff (k := pre.length) hn
          have ek : (stD ((r.take (pre.length + 1)).foldl wP (some (ps0 cs)))).frz.isNon = decide (n ≤ pre.length) := by
            rw [stD_frz]
            cases z : (r.take (pre.length + 1)).foldl wP (some (ps0 cs)) with
            | none => rw [z] at hti; rw [decide_eq_true (hti.mp rfl)]; rfl
            | some qs => rw [z] at hti; rw [decide_eq_false (fun hle => by have := hti.mpr hle; cases this)]; rfl
          refine we_non (vo_isN ⟨_, rfl, ?_⟩)
          rw [ek]
          refine if_b (fun h => ?_) (fun h => ?_)
          · refine we_var 7 rfl (.inl rfl) rfl rfl ?_
            show _ = _
            rw [snoc_len, List.range_succ, List.filter_append, List.filter_cons, if_pos h, hI]
            unfold iN; rw [List.map_append]; rfl
          · show _ = _
            rw [snoc_len, List.range_succ, List.filter_append, List.filter_cons, if_neg (by rw [h]; exact Bool.false_ne_true), List.filter_nil, List.append_nil, hI]
        · intro acc hle hI
          rw [rng_len] at hI
          subst hI
          rw [iN_iL]
          have hmem : n ∈ (List.range r.length).filter fun k => decide (n ≤ k) := List.mem_filter.mpr ⟨List.mem_range.mpr hnl, decide_eq_true (Nat.le_refl n)⟩
          refine wa_nil (vc_minL (by rw [List.length_map]; exact List.length_pos_of_mem hmem) fun m hm hall => ?_)
          obtain ⟨k, hk, rfl⟩ := List.mem_map.mp hm
          have hnk := of_decide_eq_true (List.mem_filter.mp hk).2
          have hkn := hall (n : Int) (List.mem_map.mpr ⟨n, hmem, rfl⟩)
          have : k = n := by omega
          subst this
          rfl
      intro Δ' hI
      subst hI
      refine wb_cons (ws_if (wt_not (wt_val (we_call A.is1 (Nat.le_of_ble_eq_true rfl) rfl (wa_cons (we_caught 6 A.caught rfl rfl (Nat.le_of_ble_eq_true rfl) rfl (by dsimp only; decide +kernel) ?_))))))
      refine wo_call A.beh (Nat.le_of_ble_eq_true rfl) rfl (wa_cons (we_var 2 rfl (.inr (.inr rfl)) rfl rfl (wa_cons (we_var 3 rfl (.inr (.inr rfl)) rfl rfl ?_))))
      refine wa_nil ⟨xs, cs, iN r, .tup (iN r), rfl, .inr rfl, nk, hwr, hlr, fun pre d2 post e2 _ hb => ?_, fun q2 e2 _ => ?_⟩
      · rw [hir d2 (by rw [e2]; simp)] at hb; cases hb
      have e3 := iN_inj e2
      subst e3
      refine ⟨fun qs2 h2 => ?_, fun n2 hn2 => ⟨.inr (.inr ⟨_, rfl⟩), ?_⟩⟩
      · rw [ho] at h2; cases h2
      have e4 := stop_uniq hn hn2
      subst e4
      rw [toldX]
      refine wa_cons (we_tup (wa_cons (we_str (wa_cons (we_var 5 rfl (.inl rfl) rfl rfl (wa_nil ⟨sz (Nat.le_of_ble_eq_true rfl), ?_⟩))))))
      refine wa_nil ⟨_, rfl, ⟨by show 2 ≤ 1000000; decide, fun e he => ?_⟩, _, rfl, if_f rfl (wb_nil (wb_nil ⟨_, rfl⟩))⟩
      rw [List.mem_cons, List.mem_singleton] at he
      rcases he with rfl | rfl
      · exact isOk_str
      · exact isOk_int
  intro Δ' ⟨c5, hI⟩
  subst hI
  refine wb_cut (fun Δ' => ∃ odd, ∃ k : Nat, Δ' = [some .pen, some (netD xs cs), some (netO C N xs cs), some (.tup (iN r)), some (stD o), c5, some odd, some (.int (k : Int)), none, none, none] ∧ OddD xs.length odd ∧ k ≤ r.length) ?_ ?_
  · refine (ws_parO 6 7 rfl rfl (by decide) rfl rfl (wo_call A.pick (Nat.le_of_ble_eq_true rfl) rfl (wa_cons (we_var 0 rfl (.inl rfl) rfl rfl (wa_cons (we_lst ?_))))) (fun env h => by cases env; cases h; rfl))
    refine wa_cons (we_of_wo (wo_callB rfl B.len boot_len (wa_cons (we_ix (we_var 1 rfl (.inr (.inl rfl)) rfl rfl (we_int (vi_tup (d := .tup (sL xs)) rfl (wa_nil (vc_lenT ?_)))))))))
    rw [sL_len]
    refine wa_cons (we_neg (we_int ⟨_, rfl, ?_⟩))
    refine wa_cons (we_non (wa_cons (we_bl (wa_cons (we_str ?_)))))
    refine wa_nil ⟨sz (Nat.le_of_ble_eq_true rfl), wa_nil ⟨_, rfl, (by show 1 ≤ 5; omega), (by show 5 ≤ 1000; omega), fun odd hodd => ?_⟩⟩
    have hod : OddD xs.length odd := by
      simp only [List.mem_cons, List.not_mem_nil, or_false] at hodd
      rcases hodd with rfl | rfl | rfl | rfl | rfl
      · exact ⟨fun e => (nomatch e), (by show decide (0 ≤ (xs.length : Int) ∧ (xs.length : Int) < (xs.length : Int)) = false; exact decide_eq_false (by omega)), (Sd.int (by omega)).mono (by decide) (Nat.le_refl 2), rfl, rfl⟩
      · exact ⟨fun e => (nomatch e), (by show decide (0 ≤ (-1 : Int) ∧ (-1 : Int) < (xs.length : Int)) = false; exact decide_eq_false (by omega)), (Sd.int (by decide)).mono (by decide) (Nat.le_refl 2), rfl, rfl⟩
      · exact ⟨fun e => (nomatch e), rfl, Sd.non.mono (by decide) (Nat.le_refl 2), rfl, rfl⟩
      · exact ⟨fun e => (nomatch e), rfl, Sd.bl.mono (by decide) (Nat.le_refl 2), rfl, rfl⟩
      · exact ⟨fun e => (nomatch e), rfl, (Sd.lit (by decide +kernel)).mono (by decide) (by decide), rfl, rfl⟩
    clear hodd
    refine wo_of_we (we_call A.draw (Nat.le_of_ble_eq_true rfl) rfl (wa_cons (we_var 0 rfl (.inl rfl) rfl rfl (wa_cons (we_bin (we_of_wo (wo_callB rfl B.len boot_len ?_)))))))
    refine wa_cons (we_var 3 rfl (.inr (.inl rfl)) rfl rfl (wa_nil (vc_lenT (we_int (vo_add (wa_nil ⟨_, rfl, by rw [iN_len]; omega, by rw [iN_len]; omega, fun a a0 a1 => ?_⟩))))))
    rw [iN_len] at a1
    obtain ⟨k, rfl, hk⟩ := nat_of (n := r.length + 1) a0 (by omega)
    exact ⟨odd, k, rfl, hod, by omega⟩
  intro Δ' ⟨odd, k, hI, hod, hk⟩
  subst hI
  have oo := hod.o
  obtain ⟨wk, hwk⟩ := Option.ne_none_iff_exists'.mp hod.w
  refine wb_cut (fun Δ' => Δ' = [some .pen, some (netD xs cs), some (netO C N xs cs), some (.tup (iN r)), some (stD o), c5, some odd, some (.int (k : Int)), some (.tup ((iN r).take k ++ [odd] ++ (iN r).drop k)), none, none]) ?_ ?_
  · refine ws_set 8 rfl (.inr rfl) (wo_bin (we_bin (we_slice (we_var 3 rfl (.inr (.inl rfl)) rfl rfl ?_))))
    show WOp _ _ _ _
    refine ?_
    show WOp _ _ _ _
    refine we_var 7 rfl (.inl rfl) rfl rfl ⟨_, rfl, vs_tup ?_⟩
    rw [cut_to (by rw [iN_len]; omega)]
    refine we_tup (wa_cons (we_var 6 rfl (.inl rfl) rfl oo (wa_nil ⟨sz (Nat.le_of_ble_eq_true rfl), ?_⟩)))
    refine vo_catT (by rw [List.length_take, iN_len, sizeLine_eq]; show _ + 1 ≤ _; omega) ?_
    refine we_slice (we_var 3 rfl (.inr (.inl rfl)) rfl rfl ?_)
    show WOp _ _ _ _
    refine we_var 7 rfl (.inl rfl) rfl rfl ⟨_, rfl, ?_⟩
    show WOp _ _ _ _
    refine vs_tup ?_
    rw [cut_from (by rw [iN_len]; omega)]
    exact vo_catT (by rw [List.length_append, List.length_take, List.length_drop, iN_len, sizeLine_eq]; show _ + 1 + _ ≤ _; omega) rfl
  intro Δ' hI
  subst hI
  have wall : ∀ x ∈ (iN r).take k ++ [odd] ++ (iN r).drop k, (wholeB x ≠ none ∧ idxB xs.length x = true) ∨ x = odd := fun x hx => by
    rw [List.mem_append, List.mem_append, List.mem_singleton] at hx
    rcases hx with (hx | hx) | hx
    · exact .inl ⟨hwr x (List.mem_of_mem_take hx), hir x (List.mem_of_mem_take hx)⟩
    · exact .inr hx
    · exact .inl ⟨hwr x (List.mem_of_mem_drop hx), hir x (List.mem_of_mem_drop hx)⟩
  have wmem : odd ∈ (iN r).take k ++ [odd] ++ (iN r).drop k := by simp
  have wlen : ((iN r).take k ++ [odd] ++ (iN r).drop k).length ≤ 1000 := by rw [List.length_append, List.length_append, List.length_take, List.length_drop, iN_len]; show _ + 1 + _ ≤ _; omega
  generalize (iN r).take k ++ [odd] ++ (iN r).drop k = wl at wall wmem wlen ⊢
  have wwh : ∀ x ∈ wl, wholeB x ≠ none := fun x hx => by
    rcases wall x hx with h | rfl
    · exact h.1
    · exact hod.w
  have wbad : ∀ q2 : List Nat, wl = iN q2 → (∀ x ∈ q2, x < xs.length) → False := fun q2 e2 h2 => by
    have := iN_idx h2 odd (by rw [← e2]; exact wmem)
    rw [hod.b] at this; cases this
  refine wb_cons (ws_if (wt_cmp (we_of_wo (wo_callB rfl A.rp boot_repr (wa_cons (we_caught 6 A.caught rfl rfl (Nat.le_of_ble_eq_true rfl) rfl (by dsimp only; decide +kernel) ?_))))))
  refine wo_call A.beh (Nat.le_of_ble_eq_true rfl) rfl (wa_cons (we_var 2 rfl (.inr (.inr rfl)) rfl rfl (wa_cons (we_var 8 rfl (.inr (.inr rfl)) rfl rfl ?_))))
  refine wa_nil ⟨xs, cs, wl, .tup wl, rfl, .inr rfl, nk, wwh, wlen, fun pre d2 post e2 _ hb => ?_, fun q2 e2 h2 => (wbad q2 e2 h2).elim⟩
  have ed : d2 = odd := by
    rcases wall d2 (by rw [e2]; simp) with h | h
    · rw [h.2] at hb; cases hb
    · exact h
  subst ed
  refine ⟨.inr (.inl ⟨_, rfl⟩), ?_⟩
  rw [toldD]
  have hsd := Sd.small2 1000 2 hod.s (by decide) (by decide) "deed" (Sd.lit (by decide +kernel))
  refine wa_nil (vc_repr hsd rfl ?_)
  refine we_of_wo (wo_callB rfl A.rp boot_repr (wa_cons (we_tup (wa_cons (we_str (wa_cons (we_var 6 rfl (.inl rfl) rfl oo (wa_nil ⟨sz (Nat.le_of_ble_eq_true rfl), wa_nil (vc_repr hsd rfl ?_)⟩))))))))
  refine vo_neS ⟨_, rfl, if_f (by rw [Bool.not_eq_false']; exact decide_eq_true rfl) ?_⟩
  refine wb_nil ?_
  refine wb_cons (ws_if (wt_cmp (we_call A.isRun (Nat.le_of_ble_eq_true rfl) rfl ?_)))
  refine wa_cons (we_var 2 rfl (.inr (.inl rfl)) rfl rfl (wa_cons (we_var 8 rfl (.inr (.inl rfl)) rfl rfl ?_)))
  refine wa_nil ⟨xs, cs, .tup wl, rfl, nk, .inr ⟨wl, rfl, wwh, wlen, fun _ => we_bl (vo_nisB ⟨_, rfl, if_f rfl ?_⟩), fun q2 e2 h2 => (wbad q2 e2 h2).elim⟩⟩
  refine wb_nil ?_
  refine wb_cut (fun Δ' => ∃ r2, Δ' = [some .pen, some (netD xs cs), some (netO C N xs cs), some (.tup (iN r)), some (stD o), c5, some d2, some (.int (k : Int)), some (.tup wl), some (.tup (iN r2)), none] ∧ r2.Perm r) ?_ ?_
  · refine ws_set 9 rfl (.inl rfl) (wo_callTy rfl B.tuple boot_tuple (wa_cons (we_of_wo (wo_call A.shuf (Nat.le_of_ble_eq_true rfl) rfl (wa_cons (we_var 0 rfl (.inl rfl) rfl rfl (wa_cons (we_var 3 rfl (.inr (.inl rfl)) rfl rfl (wa_nil ⟨iN r, rfl, hlr, fun m hm => ?_⟩)))))))))
    obtain ⟨r2, rfl, hp⟩ := perm_iN hm
    exact wa_nil (vc_tupL ⟨r2, rfl, hp⟩)
  intro Δ' ⟨r2, hI, hp⟩
  subst hI
  have hr2 : ∀ x ∈ r2, x < xs.length := fun x hx => hr x (hp.mem_iff.mp hx)
  have hl2 : (iN r2).length ≤ 1000 := by rw [iN_len, hp.length_eq]; omega
  refine wb_cut (fun Δ' => Δ' = [some .pen, some (netD xs cs), some (netO C N xs cs), some (.tup (iN r)), some (stD o), c5, some d2, some (.int (k : Int)), some (.tup wl), some (.tup (iN r2)), some (stD (r2.foldl wP (some (ps0 cs))))]) ?_ ?_
  · refine ws_set 10 rfl (.inl rfl) (wo_call A.walk (Nat.le_of_ble_eq_true rfl) rfl (wa_cons (we_var 1 rfl (.inr (.inl rfl)) rfl rfl (wa_cons (we_call A.lst (Nat.le_of_ble_eq_true rfl) rfl (wa_cons (we_var 1 rfl (.inr (.inl rfl)) rfl rfl (wa_nil ⟨xs, cs, rfl, by omega, ?_⟩))))))))
    exact wa_cons (we_var 9 rfl (.inl rfl) rfl rfl (wa_nil ⟨xs, cs, some (ps0 cs), r2, xs.length, by rw [st0]; rfl, ok0, by omega, nr.g, hr2, rfl⟩))
  intro Δ' hI
  subst hI
  obtain ⟨o2, ho2⟩ : ∃ o2, r2.foldl wP (some (ps0 cs)) = o2 := ⟨_, rfl⟩
  rw [ho2]
  have so2 := stD_own o2
  refine wb_cons (ws_ret (wo_of_we (we_or (we_cmp (we_var 4 rfl (.inl rfl) rfl so (we_non (vo_isN ⟨_, rfl, ?_⟩)))))))
  cases o with
  | none => exact if_t rfl q
  | some qs =>
    refine if_f rfl (we_or (we_cmp (we_var 10 rfl (.inl rfl) rfl so2 (we_non (vo_isN ⟨_, rfl, ?_⟩)))))
    cases o2 with
    | none => exact if_t rfl q
    | some us =>
      refine if_f rfl (we_one (we_call A.is1 (Nat.le_of_ble_eq_true rfl) rfl (wa_cons (we_call A.beh (Nat.le_of_ble_eq_true rfl) rfl ?_))))
      refine wa_cons (we_var 2 rfl (.inr (.inl rfl)) rfl rfl (wa_cons (we_var 9 rfl (.inl rfl) rfl rfl ?_))) 
      refine wa_nil ⟨xs, cs, iN r2, .tup (iN r2), rfl, .inr rfl, nk, iN_whole, hl2, fun pre d3 post e2 _ hb => ?_, fun q2 e2 _ => ?_⟩
      · rw [iN_idx hr2 d3 (by rw [e2]; simp)] at hb; cases hb
      have e3 := iN_inj e2
      subst e3
      refine ⟨fun qs2 h2 => ?_, fun n hn => ?_⟩
      · have e4 := perm_end hp h2 ho
        subst e4
        have hql : (stI qs2).length ≤ 1000 := by unfold stI; rw [List.length_map, ps_len (hfold qs2 rfl)]; omega
        exact wa_cons (we_var 4 rfl (.inl rfl) rfl rfl (wa_nil ⟨_, rfl, isOk_iL hql, q⟩))
      · rw [stop_none hn] at ho2; cases ho2
end
end K38
end
section
set_option Elab.async false
set_option linter.all false
set_option maxRecDepth 100000
set_option maxHeartbeats 4000000
/-! YX: _law_standing_right. -/
namespace K38
open PySem PySem.Spec PyProof.Rows L2 DL
theorem ps_inj : ∀ {a b : List (Cn × Int)}, csP a = csP b → stI a = stI b → a = b
  | [], [], _, _ => rfl
  | x :: a, y :: b, h1, h2 => by
    have h1 : x.1 :: csP a = y.1 :: csP b := h1
    have h2 : x.2 :: stI a = y.2 :: stI b := h2
    injection h1 with a1 a2
    injection h2 with b1 b2
    rw [ps_inj a2 b2, Prod.ext a1 b1]
  | [], _ :: _, h, _ => by cases h
  | _ :: _, [], h, _ => by cases h
theorem ps_one {cs : List Cn} {a b : List (Cn × Int)} (h1 : csP a = cs) (h2 : csP b = cs) (h : D.tup (iL (stI a)) = .tup (iL (stI b))) : b = a := by
  injection h with h
  exact ps_inj (h2.trans h1.symm) (iL_inj h.symm ▸ rfl)
theorem fits_in {m k : Nat} {p : Nat → Bool} (h : k < m) : decide ((k : Int) ∈ (((List.range m).filter p).map fun (n : Nat) => (n : Int))) = p k := by
  cases e : p k with
  | true =>
    refine decide_eq_true (List.mem_map.mpr ⟨k, List.mem_filter.mpr ⟨List.mem_range.mpr h, e⟩, rfl⟩)
  | false =>
    refine decide_eq_false fun hm => ?_
    obtain ⟨j, hj, ej⟩ := List.mem_map.mp hm
    have : j = k := by omega
    subst this
    have := (List.mem_filter.mp hj).2
    rw [e] at this; cases this
/-- no standing of m counters -/
structure OddS (m : Nat) (d : D) : Prop where
  v : Vl d
  l : ∀ l, d ≠ .lst l
  b : nmsB (tupz d) m = false
  s : Sd 1000 2 d
  f : d.frz = d
theorem OddS.vr {m : Nat} {d : D} (h : OddS m d) : VR d := ⟨h.v, fun l e => (h.l l e).elim⟩
theorem odd_tup {m : Nat} {l : List D} (hl : l.length ≤ 12) (h : ∀ x ∈ l, itB x ≠ none ∧ Sd 13 1 x) (hb : (decide (l.length = m) && l.all nnB) = false) : OddS m (.tup l) :=
  ⟨⟨by omega, fun x hx => (h x hx).1⟩, fun _ e => (nomatch e), hb, (Sd.tup fun x hx => (h x hx).2).mono (by have : (13 + 2) * l.length ≤ 15 * 12 := Nat.mul_le_mul_left 15 hl; omega) (by decide), rfl⟩
theorem toldR {BR : Addr} (a b : D) : toldC ⟨BR, ["row", "what"], [b, a]⟩ = .tup [.str "row", a, b] := rfl
theorem rep_same (n : Nat) (t : D) : (List.replicate n [t]).flatten = List.replicate n t := by
  induction n with
  | zero => rfl
  | succ n ih => rw [List.replicate_succ, List.flatten_cons, ih]; rfl
theorem isOk_iN {r : List Nat} (h : r.length ≤ 1000) : isOk 1 (.tup (iN r)) := ⟨by rw [iN_len]; omega, fun e he => by
  obtain ⟨k, _, rfl⟩ := List.mem_map.mp he
  exact isOk_int⟩
theorem moved_len (ps : List (Cn × Int)) (d : Nat) : (stI (moved ps d)).length = ps.length := by unfold stI moved; rw [List.length_map, List.length_map]
theorem no_at {Δ : Dl} {i : Nat} {d : D} (h : Δ[i]? = some (some d)) (ho : d.own = false) : (noOwn Δ)[i]? = some (some d) := by
  unfold noOwn
  rw [List.getElem?_map, h]
  show some (if d.own = true then none else some d) = _
  rw [if_neg (by rw [ho]; exact Bool.false_ne_true)]
theorem q_t {Q : D → Prop} {b : Bool} (h : b = true) (q : Q (.bl true)) : Q (.bl b) := by rw [h]; exact q
def spSR (C N : Addr) : DSp := fun ds Q _ => ∃ xs cs, ds = [.pen, netD xs cs, netO C N xs cs] ∧ NR xs cs ∧ Q (.bl true)
section
variable {P : Program} {w : World} {K : PySem.W.Frag} {mg : Str → Option Value} {base : Heap} {C N BR ND NX : Addr}
abbrev s_sr : Stmt := top 62
theorem sc_sr : FnScope ["pen", "net", "made", "standing", "can", "deed", "odd", "told", "wrong", "counter"] ["pen", "net", "made"] (defScope s_sr) := ⟨rfl, rfl, rfl, by decide +kernel, rfl, by decide +kernel, by decide +kernel⟩
theorem ok_sr {f c0 P0 : Addr} {fd : FuncData} {T : List (Addr × Str)} (hT : (P0, lq "_law_standing_right") ∈ T) (A : AllK P w K mg base C N BR ND NX) (F : FunL K "_law_standing_right" "_law_standing_right" s_sr f fd (.ref c0)) (TB : LamX.TabB base mg c0 P0) : FnT P w K mg base T 9 f fd ["pen", "net", "made"] (spSR C N) := by
  have B := A.B
  refine def_okL T F TB hT sc_sr (fun ds Q E ⟨_, _, e, _⟩ => by rw [e]; rfl) fun ds Q E ⟨xs, cs, e, nr, q⟩ => ?_
  subst e
  have hcl := nr.l
  have hx5 := nr.x
  have hxp : 1 ≤ xs.length := List.length_pos_iff.mpr nr.nm.ne
  have nk : NetOk xs cs := ⟨nr.g, by omega, by omega⟩
  refine wb_cut (fun Δ' => ∃ ps : List (Cn × Int), Δ' = [some .pen, some (netD xs cs), some (netO C N xs cs), some (.tup (iL (stI ps))), none, none, none, none, none, none] ∧ csP ps = cs ∧ ∀ z ∈ stI ps, 0 ≤ z ∧ z < 8) ?_ ?_
  · refine ws_set 3 rfl (.inr rfl) (wo_callTy rfl B.tuple boot_tuple (wa_cons (we_lc [("counter", 9)] (by dsimp only [Cf.blk]; decide +kernel) (wi_tup (we_ix (we_var 1 rfl (.inr (.inl rfl)) rfl rfl (we_int (vi_tup (d := .tup (cs.map Cn.tp)) rfl ?_))))))))
    refine ⟨_, rfl, by rw [List.length_map]; exact sz (by omega), fun pre acc => ∃ ns : List Int, acc = iL ns ∧ ns.length = pre.length ∧ ∀ z ∈ ns, 0 ≤ z ∧ z < 8, ⟨[], rfl, rfl, by simp⟩, ?_, ?_⟩
    · intro pre d post acc hsp hle ⟨ns, hI, hl, hz⟩
      have hd : d.own = false := by
        obtain ⟨n, _, rfl⟩ := map_at hsp
        rfl
      refine wg_name 9 rfl (.inl rfl) (by decide) (we_call A.draw (Nat.le_of_ble_eq_true rfl) rfl (wa_cons (we_var 0 rfl (.inr (.inl rfl)) rfl rfl (wa_cons (we_int (wa_nil ⟨_, rfl, by decide, by decide, fun r r0 r1 => ?_⟩))))))
      refine ⟨ns ++ [r], by rw [hI]; unfold iL; rw [List.map_append]; rfl, by rw [snoc_len, snoc_len, hl], fun z hm => ?_⟩
      rw [List.mem_append, List.mem_singleton] at hm
      rcases hm with hm | rfl
      · exact hz z hm
      · exact ⟨r0, r1⟩
    · intro acc hle ⟨ns, hI, hl, hz⟩
      rw [List.length_map] at hl
      subst hI
      refine wa_nil (vc_tupL ?_)
      have e1 : csP (cs.zip ns) = cs := by unfold csP; rw [List.map_fst_zip (by omega)]
      have e2 : stI (cs.zip ns) = ns := by unfold stI; rw [List.map_snd_zip (by omega)]
      exact ⟨cs.zip ns, by rw [e2]; rfl, e1, by rw [e2]; exact hz⟩
  intro Δ' ⟨ps, hI, hps, hz⟩
  subst hI
  have hpl := ps_len hps
  have hpg := ps_good hps nr.g
  have hsl : (stI ps).length = cs.length := by unfold stI; rw [List.length_map, hpl]
  have hnm : nmsB (.tup (iL (stI ps))) cs.length = true := by
    show (decide ((iL (stI ps)).length = cs.length) && (iL (stI ps)).all nnB) = true
    rw [iL_len, hsl, decide_eq_true rfl, nn_iL]
    exact List.all_eq_true.mpr fun z hm => decide_eq_true (hz z hm).1
  have hvs : Vl (.tup (iL (stI ps))) := ⟨by rw [iL_len, hsl]; omega, fun x hx => by obtain ⟨z, _, rfl⟩ := List.mem_map.mp hx; exact fun e => nomatch e⟩
  obtain ⟨fs, hfs⟩ : ∃ fs, (List.range xs.length).filter (fits ps) = fs := ⟨_, rfl⟩
  have hfl : fs.length ≤ 5 := by
    have := List.length_filter_le (fits ps) (List.range xs.length)
    rw [hfs, List.length_range] at this
    omega
  refine wb_cut (fun Δ' => Δ' = [some .pen, some (netD xs cs), some (netO C N xs cs), some (.tup (iL (stI ps))), some (.tup (iN fs)), none, none, none, none, none]) ?_ ?_
  · refine ws_set 4 rfl (.inl rfl) (wo_callTy rfl B.tuple boot_tuple (wa_cons (we_lc [("deed", 5)] (by dsimp only [Cf.blk]; decide +kernel) (wi_range1 rfl B.range (we_of_wo (wo_callB rfl B.len boot_len (wa_cons (we_ix (we_var 1 rfl (.inr (.inl rfl)) rfl rfl (we_int (vi_tup (d := .tup (sL xs)) rfl (wa_nil (vc_lenT ⟨_, rfl, by rw [sL_len]; omega, ?_⟩)))))))))))))
    rw [sL_len, Int.toNat_natCast]
    refine ⟨by rw [rng_len]; exact sz (by omega), fun pre acc => acc = iN ((List.range pre.length).filter (fits ps)), rfl, ?_, ?_⟩
    · intro pre y post acc hsp hle hI
      obtain ⟨rfl, hlt⟩ := rng_split hsp
      rw [Int.zero_add]
      refine wg_name 5 rfl (.inl rfl) (by decide) (wt_val (we_call A.can (Nat.le_of_ble_eq_true rfl) rfl (wa_cons (we_var 1 rfl (.inr (.inl rfl)) rfl rfl (wa_cons (we_var 3 rfl (.inr (.inl rfl)) rfl rfl (wa_cons (we_var 5 rfl (.inl rfl) rfl rfl ?_))))))))
      refine wa_nil ⟨xs, ps, pre.length, xs.length, by rw [hps], by omega, hpg, hlt, _, rfl, if_b (fun h => ?_) (fun h => ?_)⟩
      · refine we_var 5 rfl (.inl rfl) rfl rfl ?_
        show _ = _
        rw [snoc_len, List.range_succ, List.filter_append, List.filter_cons, if_pos h, hI]
        unfold iN; rw [List.map_append]; rfl
      · show _ = _
        rw [snoc_len, List.range_succ, List.filter_append, List.filter_cons, if_neg (by rw [h]; exact Bool.false_ne_true), List.filter_nil, List.append_nil, hI]
    · intro acc hle hI
      rw [rng_len, hfs] at hI
      subst hI
      exact wa_nil (vc_tupL rfl)
  intro Δ' hI
  subst hI
  refine wb_cons (ws_if (wt_not (wt_val (we_call A.is1 (Nat.le_of_ble_eq_true rfl) rfl (wa_cons (we_call A.deeds (Nat.le_of_ble_eq_true rfl) rfl ?_))))))
  refine wa_cons (we_var 2 rfl (.inr (.inl rfl)) rfl rfl (wa_cons (we_call A.pick (Nat.le_of_ble_eq_true rfl) rfl (wa_cons (we_var 0 rfl (.inr (.inl rfl)) rfl rfl (wa_cons (we_lst ?_)))))))
  refine wa_cons (we_var 3 rfl (.inr (.inl rfl)) rfl rfl (wa_cons (we_of_wo (wo_callTy rfl B.list boot_list (wa_cons (we_var 3 rfl (.inr (.inl rfl)) rfl rfl (wa_nil (vc_lstT ?_))))))))
  refine wa_nil ⟨sz (Nat.le_of_ble_eq_true rfl), wa_nil ⟨_, rfl, (by show 1 ≤ 2; omega), (by show 2 ≤ 1000; omega), fun d hd => ?_⟩⟩
  have hs : VR d.frz ∧ tupz d.frz = .tup (iL (stI ps)) := by
    simp only [List.mem_cons, List.not_mem_nil, or_false] at hd
    rcases hd with rfl | rfl
    · exact ⟨⟨hvs, fun l e => (nomatch e)⟩, rfl⟩
    · exact ⟨⟨trivial, fun l e => by cases e; exact hvs⟩, rfl⟩
  clear hd
  refine wa_nil ⟨xs, cs, d.frz, rfl, nk, hs.1, fun h => ?_, fun ps2 _ h1 h2 => ?_⟩
  · rw [hs.2, hnm] at h; cases h
  have e2 := ps_one hps h1 (hs.2.symm.trans h2)
  subst e2
  rw [hfs]
  refine wa_cons (we_var 4 rfl (.inl rfl) rfl rfl (wa_nil ⟨_, rfl, isOk_iN (by omega), _, rfl, if_f rfl (wb_nil ?_)⟩))
  have sqf : Sq (D.tup (iN fs)) ((fs.map fun (n : Nat) => (n : Int)).map D.int) := by
    rw [iN_iL]; exact .tup
  refine wb_cut (fun Δ' => ∃ c5, Δ' = [some .pen, some (netD xs cs), some (netO C N xs cs), some (.tup (iL (stI ps2))), some (.tup (iN fs)), c5, none, none, none, none]) ?_ ?_
  · refine ws_for [5] (wi_range1 rfl B.range (we_of_wo (wo_callB rfl B.len boot_len (wa_cons (we_ix (we_var 1 rfl (.inr (.inl rfl)) rfl rfl (we_int (vi_tup (d := .tup (sL xs)) rfl (wa_nil (vc_lenT ⟨_, rfl, by rw [sL_len]; omega, ?_⟩)))))))))) 
    rw [sL_len, Int.toNat_natCast]
    refine ⟨fun pre Δ' => ∃ c5, Δ' = [some .pen, some (netD xs cs), some (netO C N xs cs), some (.tup (iL (stI ps2))), some (.tup (iN fs)), c5, none, none, none, none], ⟨_, rfl⟩, ?_, ?_⟩
    · intro pre y post Δ' hsp ⟨c5, hI⟩
      subst hI
      obtain ⟨rfl, hlt⟩ := rng_split hsp
      rw [Int.zero_add]
      obtain ⟨k, hk⟩ : ∃ k, pre.length = k := ⟨_, rfl⟩
      rw [hk] at hlt ⊢
      have hkb := fits_in (p := fits ps2) hlt
      rw [hfs] at hkb
      have hvr : VR (.tup (iL (stI ps2))) := ⟨hvs, fun l e => nomatch e⟩
      have hki : idxB xs.length (.int (k : Int)) = true := decide_eq_true ⟨by omega, by omega⟩
      refine wg_name 5 rfl (.inr rfl) (by decide) ?_
      refine wb_cons (ws_if (wt_not (wt_val (we_call A.is0 (Nat.le_of_ble_eq_true rfl) rfl (wa_cons (we_call A.canDo (Nat.le_of_ble_eq_true rfl) rfl ?_))))))
      refine wa_cons (we_var 2 rfl (.inr (.inl rfl)) rfl rfl (wa_cons (we_var 3 rfl (.inr (.inl rfl)) rfl rfl (wa_cons (we_var 5 rfl (.inr (.inl rfl)) rfl rfl ?_)))))
      refine wa_nil ⟨xs, cs, .tup (iL (stI ps2)), .int (k : Int), rfl, nk, ⟨hvr, fun e => (nomatch e), fun h => ?_, fun _ h => ?_⟩, fun ps3 k3 _ h1 h2 ek _ => ?_⟩
      · rw [show tupz (.tup (iL (stI ps2))) = .tup (iL (stI ps2)) from rfl, hnm] at h; cases h
      · rw [hki] at h; cases h
      have e3 := ps_one hps h1 h2
      subst e3
      have : k3 = k := by injection ek with ek; omega
      subst this
      refine wa_cons (we_cmp (we_var 5 rfl (.inr (.inl rfl)) rfl rfl (we_var 4 rfl (.inl rfl) rfl rfl (vo_inI sqf ?_))))
      rw [hkb]
      refine wa_nil ⟨_, rfl, isOk_bl, _, rfl, if_f rfl (wb_nil ?_)⟩
      refine wb_cut (fun Δ' => Δ' = [some .pen, some (netD xs cs), some (netO C N xs cs), some (.tup (iL (stI ps3))), some (.tup (iN fs)), some (.int (k3 : Int)), none, none, none, none]) ?_ ?_
      · refine ws_if (wt_pw (ww_and (wt_cmp (we_var 5 rfl (.inr (.inl rfl)) rfl rfl (we_var 4 rfl (.inl rfl) rfl rfl (vo_inI sqf ⟨_, rfl, ?_⟩))))))
        rw [hkb]
        refine if_b (fun h => ?_) (fun h => wb_nil rfl)
        refine ww_and1 (wt_not (wt_val (we_call A.is1 (Nat.le_of_ble_eq_true rfl) rfl (wa_cons (we_call A.doneAt (Nat.le_of_ble_eq_true rfl) rfl ?_)))))
        refine wa_cons (we_var 2 rfl (.inr (.inl rfl)) rfl rfl (wa_cons (we_var 3 rfl (.inr (.inl rfl)) rfl rfl (wa_cons (we_var 5 rfl (.inr (.inl rfl)) rfl rfl ?_)))))
        refine wa_nil ⟨xs, cs, .tup (iL (stI ps3)), .int (k3 : Int), rfl, nk, ⟨hvr, fun e => (nomatch e), fun h => ?_, fun _ h => ?_⟩, fun _ => ⟨_, rfl⟩, fun ps4 k4 _ h1 h2 ek _ => ?_⟩
        · rw [show tupz (.tup (iL (stI ps3))) = .tup (iL (stI ps3)) from rfl, hnm] at h; cases h
        · rw [hki] at h; cases h
        have e4 := ps_one hps h1 h2
        subst e4
        have : k4 = k3 := by injection ek with ek; omega
        subst this
        refine ⟨fun _ => ?_, fun hf => ?_⟩
        · refine wa_cons (we_call A.done (Nat.le_of_ble_eq_true rfl) rfl ?_)
          refine wa_cons (we_var 1 rfl (.inr (.inl rfl)) rfl rfl (wa_cons (we_var 3 rfl (.inr (.inl rfl)) rfl rfl (wa_cons (we_var 5 rfl (.inr (.inl rfl)) rfl rfl ?_)))))
          refine wa_nil ⟨xs, ps4, k4, xs.length, by rw [hps], by omega, hpg, hlt, ?_⟩
          exact wa_nil ⟨_, rfl, isOk_iL (by rw [moved_len]; omega), _, rfl, if_f rfl (wb_nil rfl)⟩
        · rw [h] at hf; cases hf
      intro Δ' hI
      subst hI
      refine wb_cons (ws_if (wt_pw (ww_and (wt_cmp (we_var 5 rfl (.inr (.inl rfl)) rfl rfl (we_var 4 rfl (.inl rfl) rfl rfl (vo_niI sqf ⟨_, rfl, ?_⟩)))))))
      rw [hkb]
      refine if_b (fun h => ?_) (fun h => wb_nil (wb_nil ⟨_, rfl⟩))
      have h : fits ps3 k3 = false := by simpa using h
      refine ww_and1 (wt_not (wt_val (we_call A.is1 (Nat.le_of_ble_eq_true rfl) rfl (wa_cons (we_caught 6 A.caught rfl rfl (Nat.le_of_ble_eq_true rfl) rfl (by dsimp only; decide +kernel) ?_)))))
      refine wo_call A.doneAt (Nat.le_of_ble_eq_true rfl) rfl ?_
      refine wa_cons (we_var 2 rfl (.inr (.inr rfl)) rfl rfl (wa_cons (we_var 3 rfl (.inr (.inr rfl)) rfl rfl (wa_cons (we_var 5 rfl (.inr (.inr rfl)) rfl rfl ?_)))))
      refine wa_nil ⟨xs, cs, .tup (iL (stI ps3)), .int (k3 : Int), rfl, nk, ⟨hvr, fun e => (nomatch e), fun h => ?_, fun _ h => ?_⟩, fun _ => ⟨_, rfl⟩, fun ps4 k4 _ h1 h2 ek _ => ?_⟩
      · rw [show tupz (.tup (iL (stI ps3))) = .tup (iL (stI ps3)) from rfl, hnm] at h; cases h
      · rw [hki] at h; cases h
      have e4 := ps_one hps h1 h2
      subst e4
      have : k4 = k3 := by injection ek with ek; omega
      subst this
      refine ⟨fun hf => ?_, fun _ => ⟨.inr (.inr ⟨_, rfl⟩), ?_⟩⟩
      · rw [h] at hf; cases hf
      rw [toldX]
      refine wa_cons (we_tup (wa_cons (we_str (wa_cons (we_int (wa_nil ⟨sz (Nat.le_of_ble_eq_true rfl), ?_⟩))))))
      refine wa_nil ⟨_, rfl, ⟨by show 2 ≤ 1000000; decide, fun e he => ?_⟩, _, rfl, if_f rfl (wb_nil (wb_nil ⟨_, rfl⟩))⟩
      rw [List.mem_cons, List.mem_singleton] at he
      rcases he with rfl | rfl
      · exact isOk_str
      · exact isOk_int
    · intro Δ' ⟨c5, hI⟩
      subst hI
      exact ⟨_, rfl⟩
  intro Δ' ⟨c5, hI⟩
  subst hI
  have hint : ∀ z ∈ stI ps2, itB (.int z) ≠ none ∧ Sd 13 1 (.int z) := fun z hm => ⟨fun e => (nomatch e), Sd.int (by have := hz z hm; omega)⟩
  refine wb_cut (fun Δ' => ∃ odd, Δ' = [some .pen, some (netD xs cs), some (netO C N xs cs), some (.tup (iL (stI ps2))), some (.tup (iN fs)), c5, some odd, none, none, none] ∧ OddS cs.length odd) ?_ ?_
  · refine ws_set 6 rfl (.inr rfl) (wo_call A.pick (Nat.le_of_ble_eq_true rfl) rfl (wa_cons (we_var 0 rfl (.inr (.inl rfl)) rfl rfl (wa_cons (we_lst ?_)))))
    refine wa_cons (we_bin (we_var 3 rfl (.inr (.inl rfl)) rfl rfl (we_tup (wa_cons (we_int (wa_nil ⟨sz (Nat.le_of_ble_eq_true rfl), vo_catT (by rw [iL_len, hsl, sizeLine_eq]; show _ + 1 ≤ _; omega) ?_⟩))))))
    refine wa_cons (we_non (wa_cons (we_int (wa_cons (we_str (wa_cons (we_bl (wa_cons (we_of_wo (wo_callTy rfl B.tuple boot_tuple (wa_cons ?_)))))))))))
    refine we_bin (we_lst (wa_cons (we_neg (we_int ⟨_, rfl, wa_nil ⟨sz (Nat.le_of_ble_eq_true rfl), ?_⟩⟩))))
    refine we_bin (we_of_wo (wo_callB rfl B.len boot_len (wa_cons (we_ix (we_var 1 rfl (.inr (.inl rfl)) rfl rfl (we_int (vi_tup (d := .tup (cs.map Cn.tp)) rfl (wa_nil (vc_lenT (we_int (vo_add ?_)))))))))))
    rw [List.length_map]
    have e1 : (cs.length : Int) + 1 = ((cs.length + 1 : Nat) : Int) := by omega
    rw [e1]
    refine vo_repL (by omega) (by omega) (by rw [Int.toNat_natCast, sizeLine_eq]; show 1 * _ ≤ _; omega) ?_
    rw [Int.toNat_natCast, rep_same]
    refine wa_nil (vc_tupL ?_)
    refine wa_nil ⟨sz (Nat.le_of_ble_eq_true rfl), wa_nil ⟨_, rfl, (by show 1 ≤ 6; omega), (by show 6 ≤ 1000; omega), fun odd hodd => ⟨odd, rfl, ?_⟩⟩⟩
    simp only [List.mem_cons, List.not_mem_nil, or_false] at hodd
    rcases hodd with rfl | rfl | rfl | rfl | rfl | rfl
    · refine odd_tup (by rw [List.length_append, iL_len, hsl]; show _ + 1 ≤ _; omega) (fun x hx => ?_) ?_
      · rw [List.mem_append, List.mem_singleton] at hx
        rcases hx with hx | rfl
        · obtain ⟨z, hm, rfl⟩ := List.mem_map.mp hx
          exact hint z hm
        · exact ⟨fun e => (nomatch e), Sd.int (by decide)⟩
      · rw [decide_eq_false (by rw [List.length_append, iL_len, hsl]; show ¬ (_ + 1 = _); omega)]; rfl
    · exact ⟨trivial, fun _ e => (nomatch e), rfl, Sd.non.mono (by decide) (Nat.le_refl 2), rfl⟩
    · exact ⟨trivial, fun _ e => (nomatch e), rfl, (Sd.int (by decide)).mono (by decide) (Nat.le_refl 2), rfl⟩
    · exact ⟨trivial, fun _ e => (nomatch e), rfl, (Sd.lit (by decide +kernel)).mono (by decide) (by decide), rfl⟩
    · exact ⟨trivial, fun _ e => (nomatch e), rfl, Sd.bl.mono (by decide) (Nat.le_refl 2), rfl⟩
    · refine odd_tup (by rw [List.length_replicate]; omega) (fun x hx => ?_) ?_
      · rw [(List.mem_replicate.mp hx).2]
        exact ⟨fun e => (nomatch e), Sd.int (by decide)⟩
      · rw [decide_eq_false (by rw [List.length_replicate]; omega)]; rfl
  intro Δ' ⟨odd, hI, hodd⟩
  subst hI
  refine wb_cut (fun Δ' => ∃ odd, Δ' = [some .pen, some (netD xs cs), some (netO C N xs cs), some (.tup (iL (stI ps2))), some (.tup (iN fs)), c5, some odd, none, none, none] ∧ OddS cs.length odd) ?_ ?_
  · have hct : OkD 4 (.tup (cs.map Cn.tp)) := (OkD.tup (n := 2) fun d hd => by
      obtain ⟨n, _, rfl⟩ := List.mem_map.mp hd
      refine OkD.tup fun x hx => ?_
      have hx : x ∈ [D.int n.f, .tup (iL n.t), .tup (iL n.p)] := hx
      simp only [List.mem_cons, List.not_mem_nil, or_false] at hx
      rcases hx with rfl | rfl | rfl
      · exact OkD.int
      · exact OkD.tup (n := 0) fun y hy => by obtain ⟨z, _, rfl⟩ := List.mem_map.mp hy; exact .int
      · exact OkD.tup (n := 0) fun y hy => by obtain ⟨z, _, rfl⟩ := List.mem_map.mp hy; exact .int).mono (by decide)
    refine ws_if (wt_cmp (we_ix (we_var 1 rfl (.inr (.inl rfl)) rfl rfl (we_int (vi_tup (d := .tup (cs.map Cn.tp)) rfl (we_tup (wa_nil ⟨sz (Nat.le_of_ble_eq_true rfl), vo_neN 4 hct ((OkD.tup (n := 0) (by simp)).mono (by decide)) (by decide) fun k hk => ⟨_, rfl, if_b (fun h => ?_) (fun h => wb_nil ⟨odd, rfl, hodd⟩)⟩⟩)))))))
    have hne : cs ≠ [] := fun e => (hk.mp h) (by rw [e]; rfl)
    have hcp : 1 ≤ cs.length := List.length_pos_iff.mpr hne
    have hsp : 1 ≤ (iL (stI ps2)).length := by rw [iL_len, hsl]; exact hcp
    have ecut : cutD (iL (stI ps2)) (some (1 : Int)) none = (iL (stI ps2)).drop 1 := cut_from (i := 1) hsp
    have hdl : ((iL (stI ps2)).drop 1).length = cs.length - 1 := by rw [List.length_drop, iL_len, hsl]
    have hdi : ∀ x ∈ (iL (stI ps2)).drop 1, itB x ≠ none ∧ Sd 13 1 x := fun x hx => by
      obtain ⟨z, hm, rfl⟩ := List.mem_map.mp (List.mem_of_mem_drop hx)
      exact hint z hm
    generalize (iL (stI ps2)).drop 1 = dl at ecut hdl hdi
    have hsnoc : ∀ y : D, itB y ≠ none → Sd 13 1 y → nnB y = false → OddS cs.length (.tup (dl ++ [y])) := fun y h1 h2 h3 => by
      refine odd_tup (by rw [snoc_len, hdl]; omega) (fun x hx => ?_) ?_
      · rw [List.mem_append, List.mem_singleton] at hx
        rcases hx with hx | rfl
        · exact hdi x hx
        · exact ⟨h1, h2⟩
      · rw [List.all_append, List.all_cons, h3, Bool.false_and, Bool.and_false, Bool.and_false]
    refine wb_cons (ws_set 6 rfl (.inr rfl) (wo_call A.pick (Nat.le_of_ble_eq_true rfl) rfl (wa_cons (we_var 0 rfl (.inr (.inl rfl)) rfl rfl (wa_cons (we_lst ?_))))))
    have oo : odd.own = false := hodd.v.own
    refine wa_cons (we_var 6 rfl (.inr (.inl rfl)) rfl oo ?_)
    refine wa_cons (we_bin (we_slice (we_var 3 rfl (.inr (.inl rfl)) rfl rfl ?_)))
    show WOp _ _ _ _
    refine we_int ⟨_, rfl, ?_⟩
    show WOp _ _ _ _
    refine vs_tup ?_
    rw [ecut]
    refine we_tup (wa_cons (we_neg (we_int ⟨_, rfl, wa_nil ⟨sz (Nat.le_of_ble_eq_true rfl), vo_catT (by rw [hdl, sizeLine_eq]; show _ + 1 ≤ _; omega) ?_⟩⟩)))
    refine wa_cons (we_bin (we_slice (we_var 3 rfl (.inr (.inl rfl)) rfl rfl ?_)))
    show WOp _ _ _ _
    refine we_int ⟨_, rfl, ?_⟩
    show WOp _ _ _ _
    refine vs_tup ?_
    rw [ecut]
    refine we_tup (wa_cons (we_bl (wa_nil ⟨sz (Nat.le_of_ble_eq_true rfl), vo_catT (by rw [hdl, sizeLine_eq]; show _ + 1 ≤ _; omega) ?_⟩)))
    refine wa_cons (we_slice (we_var 3 rfl (.inr (.inl rfl)) rfl rfl ?_))
    show WOp _ _ _ _
    refine we_int ⟨_, rfl, ?_⟩
    show WOp _ _ _ _
    refine vs_tup ?_
    rw [ecut]
    refine wa_cons (we_bin (we_slice (we_var 3 rfl (.inr (.inl rfl)) rfl rfl ?_)))
    show WOp _ _ _ _
    refine we_int ⟨_, rfl, ?_⟩
    show WOp _ _ _ _
    refine vs_tup ?_
    rw [ecut]
    refine we_tup (wa_cons (we_non (wa_nil ⟨sz (Nat.le_of_ble_eq_true rfl), vo_catT (by rw [hdl, sizeLine_eq]; show _ + 1 ≤ _; omega) ?_⟩)))
    refine wa_nil ⟨sz (Nat.le_of_ble_eq_true rfl), wa_nil ⟨_, rfl, (by show 1 ≤ 5; omega), (by show 5 ≤ 1000; omega), fun od hod => wb_nil ⟨od, rfl, ?_⟩⟩⟩
    simp only [List.mem_cons, List.not_mem_nil, or_false] at hod
    rcases hod with rfl | rfl | rfl | rfl | rfl
    · exact hodd
    · exact hsnoc _ (fun e => (nomatch e)) (Sd.int (by decide)) rfl
    · exact hsnoc _ (fun e => (nomatch e)) ((Sd.bl (m := 1)).mono (by decide) (Nat.le_refl 1)) rfl
    · refine odd_tup (by rw [hdl]; omega) hdi ?_
      rw [decide_eq_false (by rw [hdl]; omega)]; rfl
    · exact hsnoc _ (fun e => (nomatch e)) ((Sd.non (m := 1)).mono (by decide) (Nat.le_refl 1)) rfl
  clear hodd
  clear odd
  intro Δ' ⟨odd, hI, hodd⟩
  subst hI
  have oo : odd.own = false := hodd.v.own
  have hvo := hodd.vr
  refine wb_cut (fun Δ' => ∃ deed, Δ' = [some .pen, some (netD xs cs), some (netO C N xs cs), some (.tup (iL (stI ps2))), some (.tup (iN fs)), some deed, some odd, none, none, none] ∧ wholeB deed ≠ none) ?_ ?_
  · refine ws_set 5 rfl (.inr rfl) (wo_call A.pick (Nat.le_of_ble_eq_true rfl) rfl (wa_cons (we_var 0 rfl (.inr (.inl rfl)) rfl rfl (wa_cons (we_lst ?_)))))
    refine wa_cons (we_of_wo (wo_callB rfl B.len boot_len (wa_cons (we_ix (we_var 1 rfl (.inr (.inl rfl)) rfl rfl (we_int (vi_tup (d := .tup (sL xs)) rfl (wa_nil (vc_lenT ?_)))))))))
    refine wa_cons (we_neg (we_int ⟨_, rfl, ?_⟩))
    refine wa_cons (we_non (wa_cons (we_bl (wa_cons (we_int ?_)))))
    refine wa_nil ⟨sz (Nat.le_of_ble_eq_true rfl), wa_nil ⟨_, rfl, (by show 1 ≤ 5; omega), (by show 5 ≤ 1000; omega), fun od hod => ⟨od, rfl, ?_⟩⟩⟩
    simp only [List.mem_cons, List.not_mem_nil, or_false] at hod
    rcases hod with rfl | rfl | rfl | rfl | rfl <;> exact fun e => nomatch e
  intro Δ' ⟨deed, hI, hdw⟩
  subst hI
  obtain ⟨wk, hwk⟩ := Option.ne_none_iff_exists'.mp hdw
  have dow := idx_own hwk
  have hns : nmsB (tupz odd) cs.length = true → False := fun h => by rw [hodd.b] at h; cases h
  have hSt : Sd 30000 10 (.tup [.str "row", .str "standing", odd]) := Sd.small3 1000 2 hodd.s (by decide) (by decide) "row" "standing" (Sd.lit (by decide +kernel)) (Sd.lit (by decide +kernel))
  refine wb_cut (fun Δ' => Δ' = [some .pen, some (netD xs cs), some (netO C N xs cs), some (.tup (iL (stI ps2))), some (.tup (iN fs)), some deed, some odd, some (.ol [.tup [.str "row", .str "standing", odd]]), none, none]) ?_ ?_
  · refine ws_set 7 rfl (.inl rfl) (wo_lst (wa_cons (we_caught 6 A.caught rfl rfl (Nat.le_of_ble_eq_true rfl) rfl (by dsimp only; decide +kernel) ?_)))
    refine wo_call A.canDo (Nat.le_of_ble_eq_true rfl) rfl ?_
    refine wa_cons (we_var 2 rfl (.inr (.inr rfl)) rfl rfl (wa_cons (we_var 6 rfl (.inr (.inr rfl)) (no_at rfl oo) oo (wa_cons (we_var 5 rfl (.inr (.inr rfl)) (no_at rfl dow) dow ?_)))))
    refine wa_nil ⟨xs, cs, odd, deed, rfl, nk, ⟨hvo, hdw, fun _ => ⟨.inl ⟨_, _, rfl⟩, ?_⟩, fun h _ => (hns h).elim⟩, fun _ _ h _ _ _ _ => (hns h).elim⟩
    exact wa_nil ⟨sz (Nat.le_of_ble_eq_true rfl), rfl⟩
  intro Δ' hI
  subst hI
  refine wb_cut (fun Δ' => Δ' = [some .pen, some (netD xs cs), some (netO C N xs cs), some (.tup (iL (stI ps2))), some (.tup (iN fs)), some deed, some odd, some (.ol [.tup [.str "row", .str "standing", odd], .tup [.str "row", .str "standing", odd]]), none, none]) ?_ ?_
  · refine ws_app 7 rfl (.inl rfl) rfl (we_caught 6 A.caught rfl rfl (Nat.le_of_ble_eq_true rfl) rfl (by dsimp only; decide +kernel) ?_)
    refine wo_call A.doneAt (Nat.le_of_ble_eq_true rfl) rfl ?_
    refine wa_cons (we_var 2 rfl (.inr (.inr rfl)) rfl rfl (wa_cons (we_var 6 rfl (.inr (.inr rfl)) (no_at rfl oo) oo (wa_cons (we_var 5 rfl (.inr (.inr rfl)) (no_at rfl dow) dow ?_)))))
    exact wa_nil ⟨xs, cs, odd, deed, rfl, nk, ⟨hvo, hdw, fun _ => ⟨.inl ⟨_, _, rfl⟩, sz_lt (Nat.le_of_ble_eq_true rfl), rfl⟩, fun h _ => (hns h).elim⟩, fun h => (hns h).elim, fun ps3 _ h _ _ _ _ => (hns h).elim⟩
  intro Δ' hI
  subst hI
  refine wb_cut (fun Δ' => Δ' = [some .pen, some (netD xs cs), some (netO C N xs cs), some (.tup (iL (stI ps2))), some (.tup (iN fs)), some deed, some odd, some (.ol (List.replicate 3 (.tup [.str "row", .str "standing", odd]))), none, none]) ?_ ?_
  · refine ws_app 7 rfl (.inl rfl) rfl (we_caught 6 A.caught rfl rfl (Nat.le_of_ble_eq_true rfl) rfl (by dsimp only; decide +kernel) ?_)
    refine wo_call A.deeds (Nat.le_of_ble_eq_true rfl) rfl ?_
    refine wa_cons (we_var 2 rfl (.inr (.inr rfl)) rfl rfl (wa_cons (we_var 6 rfl (.inr (.inr rfl)) (no_at rfl oo) oo ?_)))
    exact wa_nil ⟨xs, cs, odd, rfl, nk, hvo, fun _ => ⟨.inl ⟨_, _, rfl⟩, sz_lt (Nat.le_of_ble_eq_true rfl), rfl⟩, fun _ h _ _ => (hns h).elim⟩
  intro Δ' hI
  subst hI
  have hSl : Sd 100000 11 (.lst (List.replicate 3 (.tup [.str "row", .str "standing", odd]))) := (Sd.lst fun x hx => by rw [(List.mem_replicate.mp hx).2]; exact hSt).mono (by rw [List.length_replicate]; decide) (by decide)
  refine ws_freeze 7 rfl rfl ?_
  refine wb_cons (ws_if (wt_cmp (we_of_wo (wo_callB rfl A.rp boot_repr (wa_cons (we_var 7 rfl (.inl rfl) rfl rfl (wa_nil (vc_repr hSl rfl ?_))))))))
  refine we_of_wo (wo_callB rfl A.rp boot_repr (wa_cons (we_bin (we_lst (wa_cons (we_tup (wa_cons (we_str (wa_cons (we_str (wa_cons (we_var 6 rfl (.inr (.inl rfl)) rfl oo (wa_nil ⟨sz (Nat.le_of_ble_eq_true rfl), ?_⟩)))))))))))))
  refine wa_nil ⟨sz (Nat.le_of_ble_eq_true rfl), we_int (vo_repL (by decide) (by decide) (by rw [sizeLine_eq]; exact Nat.le_of_ble_eq_true rfl) ?_)⟩
  rw [rep_same]
  refine wa_nil (vc_repr hSl rfl ?_)
  refine vo_neS ⟨_, rfl, if_f (by rw [Bool.not_eq_false']; exact decide_eq_true rfl) (wb_nil ?_)⟩
  refine wb_cut (fun Δ' => ∃ wrong, Δ' = [some .pen, some (netD xs cs), some (netO C N xs cs), some (.tup (iL (stI ps2))), some (.tup (iN fs)), some deed, some odd, some (.lst (List.replicate 3 (.tup [.str "row", .str "standing", odd]))), some wrong, none] ∧ OddD xs.length wrong) ?_ ?_
  · refine ws_set 8 rfl (.inr rfl) (wo_call A.pick (Nat.le_of_ble_eq_true rfl) rfl (wa_cons (we_var 0 rfl (.inr (.inl rfl)) rfl rfl (wa_cons (we_lst ?_)))))
    refine wa_cons (we_of_wo (wo_callB rfl B.len boot_len (wa_cons (we_ix (we_var 1 rfl (.inr (.inl rfl)) rfl rfl (we_int (vi_tup (d := .tup (sL xs)) rfl (wa_nil (vc_lenT ?_)))))))))
    rw [sL_len]
    refine wa_cons (we_neg (we_int ⟨_, rfl, ?_⟩))
    refine wa_cons (we_non (wa_cons (we_bl (wa_cons (we_str ?_)))))
    refine wa_nil ⟨sz (Nat.le_of_ble_eq_true rfl), wa_nil ⟨_, rfl, (by show 1 ≤ 5; omega), (by show 5 ≤ 1000; omega), fun wr hodd => ⟨wr, rfl, ?_⟩⟩⟩
    simp only [List.mem_cons, List.not_mem_nil, or_false] at hodd
    rcases hodd with rfl | rfl | rfl | rfl | rfl
    · exact ⟨fun e => (nomatch e), (by show decide (0 ≤ (xs.length : Int) ∧ (xs.length : Int) < (xs.length : Int)) = false; exact decide_eq_false (by omega)), (Sd.int (by omega)).mono (by decide) (Nat.le_refl 2), rfl, rfl⟩
    · exact ⟨fun e => (nomatch e), (by show decide (0 ≤ (-1 : Int) ∧ (-1 : Int) < (xs.length : Int)) = false; exact decide_eq_false (by omega)), (Sd.int (by decide)).mono (by decide) (Nat.le_refl 2), rfl, rfl⟩
    · exact ⟨fun e => (nomatch e), rfl, Sd.non.mono (by decide) (Nat.le_refl 2), rfl, rfl⟩
    · exact ⟨fun e => (nomatch e), rfl, Sd.bl.mono (by decide) (Nat.le_refl 2), rfl, rfl⟩
    · exact ⟨fun e => (nomatch e), rfl, (Sd.lit (by decide +kernel)).mono (by decide) (by decide), rfl, rfl⟩
  intro Δ' ⟨wrong, hI, hwr⟩
  subst hI
  have wo := hwr.o
  have hwd : idxB xs.length wrong = true → False := fun h => by rw [hwr.b] at h; cases h
  have hki : ∀ k : Nat, wrong = .int (k : Int) → k < xs.length → False := fun k e hk => hwd (by rw [e]; exact decide_eq_true ⟨by omega, by omega⟩)
  have hvr : VR (.tup (iL (stI ps2))) := ⟨hvs, fun l e => nomatch e⟩
  have hnf : nmsB (tupz (.tup (iL (stI ps2)))) cs.length = false → False := fun h => by rw [show tupz (.tup (iL (stI ps2))) = .tup (iL (stI ps2)) from rfl, hnm] at h; cases h
  have hWt : Sd 30000 10 (.tup [.str "deed", wrong]) := Sd.small2 1000 2 hwr.s (by decide) (by decide) "deed" (Sd.lit (by decide +kernel))
  refine wb_cut (fun Δ' => Δ' = [some .pen, some (netD xs cs), some (netO C N xs cs), some (.tup (iL (stI ps2))), some (.tup (iN fs)), some deed, some odd, some (.ol [.tup [.str "deed", wrong]]), some wrong, none]) ?_ ?_
  · refine ws_set 7 rfl (.inl rfl) (wo_lst (wa_cons (we_caught 6 A.caught rfl rfl (Nat.le_of_ble_eq_true rfl) rfl (by dsimp only; decide +kernel) ?_)))
    refine wo_call A.canDo (Nat.le_of_ble_eq_true rfl) rfl ?_
    refine wa_cons (we_var 2 rfl (.inr (.inr rfl)) rfl rfl (wa_cons (we_var 3 rfl (.inr (.inr rfl)) rfl rfl (wa_cons (we_var 8 rfl (.inr (.inr rfl)) (no_at rfl wo) wo ?_)))))
    refine wa_nil ⟨xs, cs, _, wrong, rfl, nk, ⟨hvr, hwr.w, fun h => (hnf h).elim, fun _ _ => ⟨.inr (.inl ⟨_, rfl⟩), ?_⟩⟩, fun _ k _ _ _ e hk => (hki k e hk).elim⟩
    rw [toldD]
    exact wa_nil ⟨sz (Nat.le_of_ble_eq_true rfl), rfl⟩
  intro Δ' hI
  subst hI
  refine wb_cut (fun Δ' => Δ' = [some .pen, some (netD xs cs), some (netO C N xs cs), some (.tup (iL (stI ps2))), some (.tup (iN fs)), some deed, some odd, some (.ol (List.replicate 2 (.tup [.str "deed", wrong]))), some wrong, none]) ?_ ?_
  · refine ws_app 7 rfl (.inl rfl) rfl (we_caught 6 A.caught rfl rfl (Nat.le_of_ble_eq_true rfl) rfl (by dsimp only; decide +kernel) ?_)
    refine wo_call A.doneAt (Nat.le_of_ble_eq_true rfl) rfl ?_
    refine wa_cons (we_var 2 rfl (.inr (.inr rfl)) rfl rfl (wa_cons (we_var 3 rfl (.inr (.inr rfl)) rfl rfl (wa_cons (we_var 8 rfl (.inr (.inr rfl)) (no_at rfl wo) wo ?_)))))
    refine wa_nil ⟨xs, cs, _, wrong, rfl, nk, ⟨hvr, hwr.w, fun h => (hnf h).elim, fun _ _ => ⟨.inr (.inl ⟨_, rfl⟩), ?_⟩⟩, fun _ => ⟨_, rfl⟩, fun _ k _ _ _ e hk => (hki k e hk).elim⟩
    rw [toldD]
    exact ⟨sz_lt (Nat.le_of_ble_eq_true rfl), rfl⟩
  intro Δ' hI
  subst hI
  have hWl : Sd 100000 11 (.lst (List.replicate 2 (.tup [.str "deed", wrong]))) := (Sd.lst fun x hx => by rw [(List.mem_replicate.mp hx).2]; exact hWt).mono (by rw [List.length_replicate]; decide) (by decide)
  refine ws_freeze 7 rfl rfl ?_
  refine wb_cons (ws_ret (wo_of_we (we_cmp (we_of_wo (wo_callB rfl A.rp boot_repr (wa_cons (we_var 7 rfl (.inl rfl) rfl rfl (wa_nil (vc_repr hWl rfl ?_)))))))))
  refine we_of_wo (wo_callB rfl A.rp boot_repr (wa_cons (we_bin (we_lst (wa_cons (we_tup (wa_cons (we_str (wa_cons (we_var 8 rfl (.inr (.inl rfl)) rfl wo (wa_nil ⟨sz (Nat.le_of_ble_eq_true rfl), ?_⟩)))))))))))
  refine wa_nil ⟨sz (Nat.le_of_ble_eq_true rfl), we_int (vo_repL (by decide) (by decide) (by rw [sizeLine_eq]; exact Nat.le_of_ble_eq_true rfl) ?_)⟩
  rw [rep_same]
  refine wa_nil (vc_repr hWl rfl ?_)
  exact vo_eqS (q_t (decide_eq_true rfl) q)
end
end K38
end
section
set_option Elab.async false
set_option linter.all false
set_option maxRecDepth 100000
set_option maxHeartbeats 4000000
/-! YL: the law. -/
namespace K38
open PySem PySem.Spec PyProof.Rows L2 DL
def spLaw : DSp := fun ds Q _ => ∃ ns, ds = [.scr ns] ∧ Q (.bl true)
theorem g_spLaw (ns : List Int) : spLaw [.scr ns] (fun d => d = .bl true) fun _ => False := ⟨ns, rfl, rfl⟩
structure All (P : Program) (w : World) (K : PySem.W.Frag) (mg : Str → Option Value) (base : Heap) (T : List (Addr × Str)) (C N : Addr) : Prop where
  B : Bl mg
  pen : Def P w K mg base 1 "_law_pen" spPen
  rows : Def P w K mg base 5 "_law_net_rows" spNetRows
  net : Def P w K mg base 7 "_law_net" (spLNet C N)
  start : Def P w K mg base 1 "start" (spStart C N)
  lst : Def P w K mg base 1 "_law_start" spLStart
  is1 : Def P w K mg base 2 "_law_is" (spIs 1)
  rr : DefT P w K mg base T 9 "_law_row_right" (spRR C N)
  sr : DefT P w K mg base T 9 "_law_standing_right" (spSR C N)
section
variable {P : Program} {w : World} {K : PySem.W.Frag} {mg : Str → Option Value} {base : Heap} {C N : Addr}
abbrev s_law : Stmt := top 63
theorem sc_law : FnScope ["script", "pen", "lap", "net", "made", "turn"] ["script"] (defScope s_law) := ⟨rfl, rfl, rfl, by decide +kernel, rfl, by decide +kernel, by decide +kernel⟩
theorem ok_law {f : Addr} {cv : Value} {fd : FuncData} {T : List (Addr × Str)} (A : All P w K mg base T C N) (F : FunL K "law" "law" s_law f fd cv) : FnT P w K mg base T 10 f fd ["script"] spLaw := by
  have B := A.B
  refine def_T0 T none F (fun _ _ _ z => by cases z) sc_law (fun ds Q E ⟨_, e, _⟩ => by rw [e]; rfl) fun ds Q E ⟨sc, e, q⟩ => ?_
  subst e
  refine wb_cons (ws_set 1 rfl (.inl rfl) (wo_call A.pen (Nat.le_of_ble_eq_true rfl) rfl (wa_cons (we_var 0 rfl (.inl rfl) rfl rfl (wa_nil ⟨sc, rfl, ?_⟩)))))
  refine wb_cons (ws_for [2] (wi_range1 rfl B.range (we_int ⟨_, rfl, by decide, ?_⟩)))
  refine ⟨fun pre Δ' => ∃ c2 c3 c4 c5, Δ' = [some (.scr sc), some .pen, c2, c3, c4, c5], ⟨_, _, _, _, rfl⟩, ?_, ?_⟩
  rotate_left
  · intro Δ' ⟨c2, c3, c4, c5, hI⟩
    subst hI
    show WB _ _ _ _
    exact wb_cons (ws_ret (wo_of_we (we_bl q)))
  intro pre d post Δ' hsp ⟨c2, c3, c4, c5, hI⟩
  subst hI
  obtain ⟨rfl, hlt⟩ := rng_split hsp
  refine wg_name 2 rfl (.inl rfl) (by decide) ?_
  generalize D.int (0 + (pre.length : Nat)) = lapD
  refine wb_cut (fun Δ' => ∃ xs cs, Δ' = [some (.scr sc), some .pen, some lapD, some (netD xs cs), c4, c5] ∧ NR xs cs) ?_ ?_
  · exact ws_set 3 rfl (.inl rfl) (wo_of_we (we_call A.rows (Nat.le_of_ble_eq_true rfl) rfl (wa_cons (we_var 1 rfl (.inl rfl) rfl rfl (wa_nil ⟨rfl, fun xs cs nr => ⟨xs, cs, rfl, nr⟩⟩)))))
  intro Δ' ⟨xs, cs, hI, nr⟩
  subst hI
  have hcl := nr.l
  refine wb_cut (fun Δ' => Δ' = [some (.scr sc), some .pen, some lapD, some (netD xs cs), some (netO C N xs cs), c5]) ?_ ?_
  · exact ws_set 4 rfl (.inl rfl) (wo_of_we (we_call A.net (Nat.le_of_ble_eq_true rfl) rfl (wa_cons (we_var 3 rfl (.inl rfl) rfl rfl (wa_nil ⟨xs, cs, rfl, nr.nm, nr.g, by omega, rfl⟩)))))
  intro Δ' hI
  subst hI
  refine wb_cons (ws_if (wt_not (wt_val (we_call A.is1 (Nat.le_of_ble_eq_true rfl) rfl (wa_cons (we_call A.start (Nat.le_of_ble_eq_true rfl) rfl (wa_cons (we_var 4 rfl (.inl rfl) rfl rfl ?_))))))))
  refine wa_nil ⟨xs, cs, rfl, by omega, ?_⟩
  refine wa_cons (we_call A.lst (Nat.le_of_ble_eq_true rfl) rfl (wa_cons (we_var 3 rfl (.inl rfl) rfl rfl (wa_nil ⟨xs, cs, rfl, by omega, ?_⟩))))
  refine wa_nil ⟨_, rfl, isOk_iL (by rw [List.length_map]; omega), _, rfl, if_f rfl (wb_nil ?_)⟩
  refine wb_cons (ws_for [5] (wi_range1 rfl B.range (we_int ⟨_, rfl, by decide, ?_⟩)))
  refine ⟨fun pre Δ' => ∃ c5, Δ' = [some (.scr sc), some .pen, some lapD, some (netD xs cs), some (netO C N xs cs), c5], ⟨_, rfl⟩, ?_, ?_⟩
  · intro pre2 d2 post2 Δ' hsp2 ⟨c5, hI⟩
    subst hI
    obtain ⟨rfl, hlt2⟩ := rng_split hsp2
    refine wg_name 5 rfl (.inl rfl) (by decide) ?_
    refine wb_cons (ws_if (wt_pw (ww_or (wt_not (wt_val (we_callT A.rr rfl (Nat.le_of_ble_eq_true rfl) rfl (wa_cons (we_var 1 rfl (.inl rfl) rfl rfl (wa_cons (we_var 3 rfl (.inl rfl) rfl rfl (wa_cons (we_var 4 rfl (.inl rfl) rfl rfl ?_))))))))))))
    refine wa_nil ⟨xs, cs, rfl, nr, _, rfl, if_f rfl ?_⟩
    refine ww_or1 (wt_not (wt_val (we_callT A.sr rfl (Nat.le_of_ble_eq_true rfl) rfl (wa_cons (we_var 1 rfl (.inl rfl) rfl rfl (wa_cons (we_var 3 rfl (.inl rfl) rfl rfl (wa_cons (we_var 4 rfl (.inl rfl) rfl rfl ?_)))))))))
    exact wa_nil ⟨xs, cs, rfl, nr, _, rfl, if_f rfl (wb_nil (wb_nil ⟨_, rfl⟩))⟩
  · intro Δ' ⟨c5, hI⟩
    subst hI
    exact wb_nil ⟨_, _, _, _, rfl⟩
end
end K38
end
section
set_option Elab.async false
set_option linter.all false
set_option maxRecDepth 100000
set_option maxHeartbeats 4000000
namespace K38
open PySem PySem.Spec PyProof.Rows L2 DL
theorem all_mk {l : PySem.W.OpenLaw} {q : Program} {w : World} {K : PySem.W.Frag} {h : Heap} {mg : Str → Option Value} {fa C N c0 c1 c2 c3 c4 c5 c6 c7 c8 c9 c10 c11 PE f_isWhole f_isNumber f_asTuples f_isWholes f_isNumbers f_index f_isName f_short f_needDeed f_needRow f_oneFor f_changes f_start f_lets f_moved f_needSt f_canDo f_netDeeds f_doneAt f_wkd f_behind f_isRun f_pen f_draw f_pick f_shuf f_is f_name f_names f_lstart f_can f_done f_walked f_drawnC f_net f_caught f_netRows f_lrow f_rr f_sr f_law f_cinit f_ninit f_xc2 f_xc6 f_xc8 c0_rr c0_sr : Addr} (X : K.In h) (G : h.Ns mainGlobals mg) (hfa : mg "law" = some (.ref fa)) (em : Empt q K mg h) (hrec : ([("_law_row_right" : Str), ("_law_standing_right" : Str)].all fun nm => (recsOf q).any fun d => d.name == nm) = true)
    {od_isWhole an_isWhole od_isNumber an_isNumber od_asTuples an_asTuples od_isWholes an_isWholes od_isNumbers an_isNumbers od_index an_index od_isName an_isName od_short an_short od_needDeed an_needDeed od_needRow an_needRow od_oneFor an_oneFor od_changes an_changes od_start an_start od_lets an_lets od_moved an_moved od_needSt an_needSt od_canDo an_canDo od_netDeeds an_netDeeds od_doneAt an_doneAt od_wkd an_wkd od_behind an_behind od_isRun an_isRun od_pen an_pen od_draw an_draw od_pick an_pick od_shuf an_shuf od_is an_is od_name an_name od_names an_names od_lstart an_lstart od_can an_can od_done an_done od_walked an_walked od_drawnC an_drawnC od_net an_net od_caught an_caught od_netRows an_netRows od_lrow an_lrow od_rr an_rr od_sr an_sr od_law an_law od_cinit an_cinit od_ninit an_ninit od_xc2 an_xc2 od_xc6 an_xc6 od_xc8 an_xc8 : Option Addr} {sl_isWhole sl_isNumber sl_asTuples sl_isWholes sl_isNumbers sl_index sl_isName sl_short sl_needDeed sl_needRow sl_oneFor sl_changes sl_start sl_lets sl_moved sl_needSt sl_canDo sl_netDeeds sl_doneAt sl_wkd sl_behind sl_isRun sl_pen sl_draw sl_pick sl_shuf sl_is sl_name sl_names sl_lstart sl_can sl_done sl_walked sl_drawnC sl_net sl_caught sl_netRows sl_lrow sl_rr sl_sr sl_law sl_cinit sl_ninit sl_xc2 sl_xc6 sl_xc8 : Array (Option Value)} {oc_isWhole kV_isWhole dc_isWhole pm_isWhole cd_isWhole ct_isWhole oc_isNumber kV_isNumber dc_isNumber pm_isNumber cd_isNumber ct_isNumber oc_asTuples kV_asTuples dc_asTuples pm_asTuples cd_asTuples ct_asTuples oc_isWholes kV_isWholes dc_isWholes pm_isWholes cd_isWholes ct_isWholes oc_isNumbers kV_isNumbers dc_isNumbers pm_isNumbers cd_isNumbers ct_isNumbers oc_index kV_index dc_index pm_index cd_index ct_index oc_isName kV_isName dc_isName pm_isName cd_isName ct_isName oc_short kV_short dc_short pm_short cd_short ct_short oc_needDeed kV_needDeed dc_needDeed pm_needDeed cd_needDeed ct_needDeed oc_needRow kV_needRow dc_needRow pm_needRow cd_needRow ct_needRow oc_oneFor kV_oneFor dc_oneFor pm_oneFor cd_oneFor ct_oneFor oc_changes kV_changes dc_changes pm_changes cd_changes ct_changes oc_start kV_start dc_start pm_start cd_start ct_start oc_lets kV_lets dc_lets pm_lets cd_lets ct_lets oc_moved kV_moved dc_moved pm_moved cd_moved ct_moved oc_needSt kV_needSt dc_needSt pm_needSt cd_needSt ct_needSt oc_canDo kV_canDo dc_canDo pm_canDo cd_canDo ct_canDo oc_netDeeds kV_netDeeds dc_netDeeds pm_netDeeds cd_netDeeds ct_netDeeds oc_doneAt kV_doneAt dc_doneAt pm_doneAt cd_doneAt ct_doneAt oc_wkd kV_wkd dc_wkd pm_wkd cd_wkd ct_wkd oc_behind kV_behind dc_behind pm_behind cd_behind ct_behind oc_isRun kV_isRun dc_isRun pm_isRun cd_isRun ct_isRun oc_pen kV_pen dc_pen pm_pen cd_pen ct_pen oc_draw kV_draw dc_draw pm_draw cd_draw ct_draw oc_pick kV_pick dc_pick pm_pick cd_pick ct_pick oc_shuf kV_shuf dc_shuf pm_shuf cd_shuf ct_shuf oc_is kV_is dc_is pm_is cd_is ct_is oc_name kV_name dc_name pm_name cd_name ct_name oc_names kV_names dc_names pm_names cd_names ct_names oc_lstart kV_lstart dc_lstart pm_lstart cd_lstart ct_lstart oc_can kV_can dc_can pm_can cd_can ct_can oc_done kV_done dc_done pm_done cd_done ct_done oc_walked kV_walked dc_walked pm_walked cd_walked ct_walked oc_drawnC kV_drawnC dc_drawnC pm_drawnC cd_drawnC ct_drawnC oc_net kV_net dc_net pm_net cd_net ct_net oc_caught kV_caught dc_caught pm_caught cd_caught ct_caught oc_netRows kV_netRows dc_netRows pm_netRows cd_netRows ct_netRows oc_lrow kV_lrow dc_lrow pm_lrow cd_lrow ct_lrow oc_rr kV_rr dc_rr pm_rr  ct_rr oc_sr kV_sr dc_sr pm_sr  ct_sr oc_law kV_law dc_law pm_law cd_law ct_law oc_cinit kV_cinit dc_cinit pm_cinit cd_cinit ct_cinit oc_ninit kV_ninit dc_ninit pm_ninit cd_ninit ct_ninit oc_xc2 kV_xc2 dc_xc2 pm_xc2 cd_xc2 ct_xc2 oc_xc6 kV_xc6 dc_xc6 pm_xc6 cd_xc6 ct_xc6 oc_xc8 kV_xc8 dc_xc8 pm_xc8 cd_xc8 ct_xc8 : Value} {t_L t_S : Tok}
    (g_C : PySem.W.nsIn K mainGlobals "Counter" = some (some (.ref C)))
    (g_N : PySem.W.nsIn K mainGlobals "Net" = some (some (.ref N)))
    (g_c0 : PySem.W.nsIn K mainGlobals "BadName" = some (some (.ref c0)))
    (g_c1 : PySem.W.nsIn K mainGlobals "BadNumber" = some (some (.ref c1)))
    (g_c2 : PySem.W.nsIn K mainGlobals "BadRow" = some (some (.ref c2)))
    (g_c3 : PySem.W.nsIn K mainGlobals "BadBehaviour" = some (some (.ref c3)))
    (g_c4 : PySem.W.nsIn K mainGlobals "BadCounter" = some (some (.ref c4)))
    (g_c5 : PySem.W.nsIn K mainGlobals "BadFrame" = some (some (.ref c5)))
    (g_c6 : PySem.W.nsIn K mainGlobals "NoDeed" = some (some (.ref c6)))
    (g_c7 : PySem.W.nsIn K mainGlobals "NoStand" = some (some (.ref c7)))
    (g_c8 : PySem.W.nsIn K mainGlobals "NotDone" = some (some (.ref c8)))
    (g_c9 : PySem.W.nsIn K mainGlobals "TooMany" = some (some (.ref c9)))
    (g_c10 : PySem.W.nsIn K mainGlobals "Unlike" = some (some (.ref c10)))
    (g_c11 : PySem.W.nsIn K mainGlobals "BadText" = some (some (.ref c11)))
    (g_PE : PySem.W.nsIn K mainGlobals "PartsError" = some (some (.ref PE)))
    (pe_ga : PySem.W.specialIn K (.ref PE) "__getattribute__" = some (some (.builtin "type.__getattribute__")))
    (pe_rd : PySem.W.readsIn K PE (.type "type") = true)
    (pe_fi : PySem.W.findCls K (.ref PE) (.type "type") "__init__" = some (.val (.builtin "ValueError.__init__")))
    (a_isWhole : PySem.W.nsIn K mainGlobals "is_whole" = some (some (.ref f_isWhole)))
    (l_isWhole : K.lookup f_isWhole = some ⟨oc_isWhole, od_isWhole, .func (PySem.W.fnOf "is_whole" "is_whole" (defArgs s_is_whole) (defBody s_is_whole) (defScope s_is_whole) .none kV_isWhole dc_isWhole pm_isWhole an_isWhole cd_isWhole ct_isWhole), sl_isWhole⟩)
    (c_isWhole : PySem.W.codeIn K cd_isWhole "is_whole" = true)
    (k_isWhole : PySem.W.keepIn K (.ref f_isWhole) = true)
    (a_isNumber : PySem.W.nsIn K mainGlobals "is_number" = some (some (.ref f_isNumber)))
    (l_isNumber : K.lookup f_isNumber = some ⟨oc_isNumber, od_isNumber, .func (PySem.W.fnOf "is_number" "is_number" (defArgs s_is_number) (defBody s_is_number) (defScope s_is_number) .none kV_isNumber dc_isNumber pm_isNumber an_isNumber cd_isNumber ct_isNumber), sl_isNumber⟩)
    (c_isNumber : PySem.W.codeIn K cd_isNumber "is_number" = true)
    (k_isNumber : PySem.W.keepIn K (.ref f_isNumber) = true)
    (a_asTuples : PySem.W.nsIn K mainGlobals "as_tuples" = some (some (.ref f_asTuples)))
    (l_asTuples : K.lookup f_asTuples = some ⟨oc_asTuples, od_asTuples, .func (PySem.W.fnOf "as_tuples" "as_tuples" (defArgs s_as_tuples) (defBody s_as_tuples) (defScope s_as_tuples) .none kV_asTuples dc_asTuples pm_asTuples an_asTuples cd_asTuples ct_asTuples), sl_asTuples⟩)
    (c_asTuples : PySem.W.codeIn K cd_asTuples "as_tuples" = true)
    (k_asTuples : PySem.W.keepIn K (.ref f_asTuples) = true)
    (a_isWholes : PySem.W.nsIn K mainGlobals "is_wholes" = some (some (.ref f_isWholes)))
    (l_isWholes : K.lookup f_isWholes = some ⟨oc_isWholes, od_isWholes, .func (PySem.W.fnOf "is_wholes" "is_wholes" (defArgs s_is_wholes) (defBody s_is_wholes) (defScope s_is_wholes) .none kV_isWholes dc_isWholes pm_isWholes an_isWholes cd_isWholes ct_isWholes), sl_isWholes⟩)
    (c_isWholes : PySem.W.codeIn K cd_isWholes "is_wholes" = true)
    (k_isWholes : PySem.W.keepIn K (.ref f_isWholes) = true)
    (a_isNumbers : PySem.W.nsIn K mainGlobals "is_numbers" = some (some (.ref f_isNumbers)))
    (l_isNumbers : K.lookup f_isNumbers = some ⟨oc_isNumbers, od_isNumbers, .func (PySem.W.fnOf "is_numbers" "is_numbers" (defArgs s_is_numbers) (defBody s_is_numbers) (defScope s_is_numbers) .none kV_isNumbers dc_isNumbers pm_isNumbers an_isNumbers cd_isNumbers ct_isNumbers), sl_isNumbers⟩)
    (c_isNumbers : PySem.W.codeIn K cd_isNumbers "is_numbers" = true)
    (k_isNumbers : PySem.W.keepIn K (.ref f_isNumbers) = true)
    (a_index : PySem.W.nsIn K mainGlobals "is_index" = some (some (.ref f_index)))
    (l_index : K.lookup f_index = some ⟨oc_index, od_index, .func (PySem.W.fnOf "is_index" "is_index" (defArgs s_index) (defBody s_index) (defScope s_index) .none kV_index dc_index pm_index an_index cd_index ct_index), sl_index⟩)
    (c_index : PySem.W.codeIn K cd_index "is_index" = true)
    (k_index : PySem.W.keepIn K (.ref f_index) = true)
    (a_isName : PySem.W.nsIn K mainGlobals "is_name" = some (some (.ref f_isName)))
    (l_isName : K.lookup f_isName = some ⟨oc_isName, od_isName, .func (PySem.W.fnOf "is_name" "is_name" (defArgs s_is_name) (defBody s_is_name) (defScope s_is_name) .none kV_isName dc_isName pm_isName an_isName cd_isName ct_isName), sl_isName⟩)
    (c_isName : PySem.W.codeIn K cd_isName "is_name" = true)
    (k_isName : PySem.W.keepIn K (.ref f_isName) = true)
    (a_short : PySem.W.nsIn K mainGlobals "is_short_of_names" = some (some (.ref f_short)))
    (l_short : K.lookup f_short = some ⟨oc_short, od_short, .func (PySem.W.fnOf "is_short_of_names" "is_short_of_names" (defArgs s_short) (defBody s_short) (defScope s_short) .none kV_short dc_short pm_short an_short cd_short ct_short), sl_short⟩)
    (c_short : PySem.W.codeIn K cd_short "is_short_of_names" = true)
    (k_short : PySem.W.keepIn K (.ref f_short) = true)
    (a_needDeed : PySem.W.nsIn K mainGlobals "need_deed" = some (some (.ref f_needDeed)))
    (l_needDeed : K.lookup f_needDeed = some ⟨oc_needDeed, od_needDeed, .func (PySem.W.fnOf "need_deed" "need_deed" (defArgs s_needDeed) (defBody s_needDeed) (defScope s_needDeed) .none kV_needDeed dc_needDeed pm_needDeed an_needDeed cd_needDeed ct_needDeed), sl_needDeed⟩)
    (c_needDeed : PySem.W.codeIn K cd_needDeed "need_deed" = true)
    (k_needDeed : PySem.W.keepIn K (.ref f_needDeed) = true)
    (a_needRow : PySem.W.nsIn K mainGlobals "need_row" = some (some (.ref f_needRow)))
    (l_needRow : K.lookup f_needRow = some ⟨oc_needRow, od_needRow, .func (PySem.W.fnOf "need_row" "need_row" (defArgs s_needRow) (defBody s_needRow) (defScope s_needRow) .none kV_needRow dc_needRow pm_needRow an_needRow cd_needRow ct_needRow), sl_needRow⟩)
    (c_needRow : PySem.W.codeIn K cd_needRow "need_row" = true)
    (k_needRow : PySem.W.keepIn K (.ref f_needRow) = true)
    (a_oneFor : PySem.W.nsIn K mainGlobals "is_one_for" = some (some (.ref f_oneFor)))
    (l_oneFor : K.lookup f_oneFor = some ⟨oc_oneFor, od_oneFor, .func (PySem.W.fnOf "is_one_for" "is_one_for" (defArgs s_oneFor) (defBody s_oneFor) (defScope s_oneFor) .none kV_oneFor dc_oneFor pm_oneFor an_oneFor cd_oneFor ct_oneFor), sl_oneFor⟩)
    (c_oneFor : PySem.W.codeIn K cd_oneFor "is_one_for" = true)
    (k_oneFor : PySem.W.keepIn K (.ref f_oneFor) = true)
    (a_changes : PySem.W.nsIn K mainGlobals "changes" = some (some (.ref f_changes)))
    (l_changes : K.lookup f_changes = some ⟨oc_changes, od_changes, .func (PySem.W.fnOf "changes" "changes" (defArgs s_changes) (defBody s_changes) (defScope s_changes) .none kV_changes dc_changes pm_changes an_changes cd_changes ct_changes), sl_changes⟩)
    (c_changes : PySem.W.codeIn K cd_changes "changes" = true)
    (k_changes : PySem.W.keepIn K (.ref f_changes) = true)
    (a_start : PySem.W.nsIn K mainGlobals "start" = some (some (.ref f_start)))
    (l_start : K.lookup f_start = some ⟨oc_start, od_start, .func (PySem.W.fnOf "start" "start" (defArgs s_start) (defBody s_start) (defScope s_start) .none kV_start dc_start pm_start an_start cd_start ct_start), sl_start⟩)
    (c_start : PySem.W.codeIn K cd_start "start" = true)
    (k_start : PySem.W.keepIn K (.ref f_start) = true)
    (a_lets : PySem.W.nsIn K mainGlobals "lets" = some (some (.ref f_lets)))
    (l_lets : K.lookup f_lets = some ⟨oc_lets, od_lets, .func (PySem.W.fnOf "lets" "lets" (defArgs s_lets) (defBody s_lets) (defScope s_lets) .none kV_lets dc_lets pm_lets an_lets cd_lets ct_lets), sl_lets⟩)
    (c_lets : PySem.W.codeIn K cd_lets "lets" = true)
    (k_lets : PySem.W.keepIn K (.ref f_lets) = true)
    (a_moved : PySem.W.nsIn K mainGlobals "moved" = some (some (.ref f_moved)))
    (l_moved : K.lookup f_moved = some ⟨oc_moved, od_moved, .func (PySem.W.fnOf "moved" "moved" (defArgs s_moved) (defBody s_moved) (defScope s_moved) .none kV_moved dc_moved pm_moved an_moved cd_moved ct_moved), sl_moved⟩)
    (c_moved : PySem.W.codeIn K cd_moved "moved" = true)
    (k_moved : PySem.W.keepIn K (.ref f_moved) = true)
    (a_needSt : PySem.W.nsIn K mainGlobals "need_standing" = some (some (.ref f_needSt)))
    (l_needSt : K.lookup f_needSt = some ⟨oc_needSt, od_needSt, .func (PySem.W.fnOf "need_standing" "need_standing" (defArgs s_needSt) (defBody s_needSt) (defScope s_needSt) .none kV_needSt dc_needSt pm_needSt an_needSt cd_needSt ct_needSt), sl_needSt⟩)
    (c_needSt : PySem.W.codeIn K cd_needSt "need_standing" = true)
    (k_needSt : PySem.W.keepIn K (.ref f_needSt) = true)
    (a_canDo : PySem.W.nsIn K mainGlobals "can_do" = some (some (.ref f_canDo)))
    (l_canDo : K.lookup f_canDo = some ⟨oc_canDo, od_canDo, .func (PySem.W.fnOf "can_do" "can_do" (defArgs s_canDo) (defBody s_canDo) (defScope s_canDo) .none kV_canDo dc_canDo pm_canDo an_canDo cd_canDo ct_canDo), sl_canDo⟩)
    (c_canDo : PySem.W.codeIn K cd_canDo "can_do" = true)
    (k_canDo : PySem.W.keepIn K (.ref f_canDo) = true)
    (a_netDeeds : PySem.W.nsIn K mainGlobals "net_deeds" = some (some (.ref f_netDeeds)))
    (l_netDeeds : K.lookup f_netDeeds = some ⟨oc_netDeeds, od_netDeeds, .func (PySem.W.fnOf "net_deeds" "net_deeds" (defArgs s_netDeeds) (defBody s_netDeeds) (defScope s_netDeeds) .none kV_netDeeds dc_netDeeds pm_netDeeds an_netDeeds cd_netDeeds ct_netDeeds), sl_netDeeds⟩)
    (c_netDeeds : PySem.W.codeIn K cd_netDeeds "net_deeds" = true)
    (k_netDeeds : PySem.W.keepIn K (.ref f_netDeeds) = true)
    (a_doneAt : PySem.W.nsIn K mainGlobals "done_at" = some (some (.ref f_doneAt)))
    (l_doneAt : K.lookup f_doneAt = some ⟨oc_doneAt, od_doneAt, .func (PySem.W.fnOf "done_at" "done_at" (defArgs s_doneAt) (defBody s_doneAt) (defScope s_doneAt) .none kV_doneAt dc_doneAt pm_doneAt an_doneAt cd_doneAt ct_doneAt), sl_doneAt⟩)
    (c_doneAt : PySem.W.codeIn K cd_doneAt "done_at" = true)
    (k_doneAt : PySem.W.keepIn K (.ref f_doneAt) = true)
    (a_wkd : PySem.W.nsIn K mainGlobals "walked" = some (some (.ref f_wkd)))
    (l_wkd : K.lookup f_wkd = some ⟨oc_wkd, od_wkd, .func (PySem.W.fnOf "walked" "walked" (defArgs s_wkd) (defBody s_wkd) (defScope s_wkd) .none kV_wkd dc_wkd pm_wkd an_wkd cd_wkd ct_wkd), sl_wkd⟩)
    (c_wkd : PySem.W.codeIn K cd_wkd "walked" = true)
    (k_wkd : PySem.W.keepIn K (.ref f_wkd) = true)
    (a_behind : PySem.W.nsIn K mainGlobals "net_behind" = some (some (.ref f_behind)))
    (l_behind : K.lookup f_behind = some ⟨oc_behind, od_behind, .func (PySem.W.fnOf "net_behind" "net_behind" (defArgs s_behind) (defBody s_behind) (defScope s_behind) .none kV_behind dc_behind pm_behind an_behind cd_behind ct_behind), sl_behind⟩)
    (c_behind : PySem.W.codeIn K cd_behind "net_behind" = true)
    (k_behind : PySem.W.keepIn K (.ref f_behind) = true)
    (a_isRun : PySem.W.nsIn K mainGlobals "is_net_run" = some (some (.ref f_isRun)))
    (l_isRun : K.lookup f_isRun = some ⟨oc_isRun, od_isRun, .func (PySem.W.fnOf "is_net_run" "is_net_run" (defArgs s_isRun) (defBody s_isRun) (defScope s_isRun) .none kV_isRun dc_isRun pm_isRun an_isRun cd_isRun ct_isRun), sl_isRun⟩)
    (c_isRun : PySem.W.codeIn K cd_isRun "is_net_run" = true)
    (k_isRun : PySem.W.keepIn K (.ref f_isRun) = true)
    (a_pen : PySem.W.nsIn K mainGlobals "_law_pen" = some (some (.ref f_pen)))
    (l_pen : K.lookup f_pen = some ⟨oc_pen, od_pen, .func (PySem.W.fnOf "_law_pen" "_law_pen" (defArgs s_pen) (defBody s_pen) (defScope s_pen) .none kV_pen dc_pen pm_pen an_pen cd_pen ct_pen), sl_pen⟩)
    (c_pen : PySem.W.codeIn K cd_pen "_law_pen" = true)
    (k_pen : PySem.W.keepIn K (.ref f_pen) = true)
    (a_draw : PySem.W.nsIn K mainGlobals "_law_draw" = some (some (.ref f_draw)))
    (l_draw : K.lookup f_draw = some ⟨oc_draw, od_draw, .func (PySem.W.fnOf "_law_draw" "_law_draw" (defArgs s_draw) (defBody s_draw) (defScope s_draw) .none kV_draw dc_draw pm_draw an_draw cd_draw ct_draw), sl_draw⟩)
    (c_draw : PySem.W.codeIn K cd_draw "_law_draw" = true)
    (k_draw : PySem.W.keepIn K (.ref f_draw) = true)
    (a_pick : PySem.W.nsIn K mainGlobals "_law_pick" = some (some (.ref f_pick)))
    (l_pick : K.lookup f_pick = some ⟨oc_pick, od_pick, .func (PySem.W.fnOf "_law_pick" "_law_pick" (defArgs s_pick) (defBody s_pick) (defScope s_pick) .none kV_pick dc_pick pm_pick an_pick cd_pick ct_pick), sl_pick⟩)
    (c_pick : PySem.W.codeIn K cd_pick "_law_pick" = true)
    (k_pick : PySem.W.keepIn K (.ref f_pick) = true)
    (a_shuf : PySem.W.nsIn K mainGlobals "_law_shuffled" = some (some (.ref f_shuf)))
    (l_shuf : K.lookup f_shuf = some ⟨oc_shuf, od_shuf, .func (PySem.W.fnOf "_law_shuffled" "_law_shuffled" (defArgs s_shuf) (defBody s_shuf) (defScope s_shuf) .none kV_shuf dc_shuf pm_shuf an_shuf cd_shuf ct_shuf), sl_shuf⟩)
    (c_shuf : PySem.W.codeIn K cd_shuf "_law_shuffled" = true)
    (k_shuf : PySem.W.keepIn K (.ref f_shuf) = true)
    (a_is : PySem.W.nsIn K mainGlobals "_law_is" = some (some (.ref f_is)))
    (l_is : K.lookup f_is = some ⟨oc_is, od_is, .func (PySem.W.fnOf "_law_is" "_law_is" (defArgs s_is) (defBody s_is) (defScope s_is) .none kV_is dc_is pm_is an_is cd_is ct_is), sl_is⟩)
    (c_is : PySem.W.codeIn K cd_is "_law_is" = true)
    (k_is : PySem.W.keepIn K (.ref f_is) = true)
    (a_name : PySem.W.nsIn K mainGlobals "_law_name" = some (some (.ref f_name)))
    (l_name : K.lookup f_name = some ⟨oc_name, od_name, .func (PySem.W.fnOf "_law_name" "_law_name" (defArgs s_name) (defBody s_name) (defScope s_name) .none kV_name dc_name pm_name an_name cd_name ct_name), sl_name⟩)
    (c_name : PySem.W.codeIn K cd_name "_law_name" = true)
    (k_name : PySem.W.keepIn K (.ref f_name) = true)
    (a_names : PySem.W.nsIn K mainGlobals "_law_names" = some (some (.ref f_names)))
    (l_names : K.lookup f_names = some ⟨oc_names, od_names, .func (PySem.W.fnOf "_law_names" "_law_names" (defArgs s_names) (defBody s_names) (defScope s_names) .none kV_names dc_names pm_names an_names cd_names ct_names), sl_names⟩)
    (c_names : PySem.W.codeIn K cd_names "_law_names" = true)
    (k_names : PySem.W.keepIn K (.ref f_names) = true)
    (a_lstart : PySem.W.nsIn K mainGlobals "_law_start" = some (some (.ref f_lstart)))
    (l_lstart : K.lookup f_lstart = some ⟨oc_lstart, od_lstart, .func (PySem.W.fnOf "_law_start" "_law_start" (defArgs s_lstart) (defBody s_lstart) (defScope s_lstart) .none kV_lstart dc_lstart pm_lstart an_lstart cd_lstart ct_lstart), sl_lstart⟩)
    (c_lstart : PySem.W.codeIn K cd_lstart "_law_start" = true)
    (k_lstart : PySem.W.keepIn K (.ref f_lstart) = true)
    (a_can : PySem.W.nsIn K mainGlobals "_law_can" = some (some (.ref f_can)))
    (l_can : K.lookup f_can = some ⟨oc_can, od_can, .func (PySem.W.fnOf "_law_can" "_law_can" (defArgs s_can) (defBody s_can) (defScope s_can) .none kV_can dc_can pm_can an_can cd_can ct_can), sl_can⟩)
    (c_can : PySem.W.codeIn K cd_can "_law_can" = true)
    (k_can : PySem.W.keepIn K (.ref f_can) = true)
    (a_done : PySem.W.nsIn K mainGlobals "_law_done" = some (some (.ref f_done)))
    (l_done : K.lookup f_done = some ⟨oc_done, od_done, .func (PySem.W.fnOf "_law_done" "_law_done" (defArgs s_done) (defBody s_done) (defScope s_done) .none kV_done dc_done pm_done an_done cd_done ct_done), sl_done⟩)
    (c_done : PySem.W.codeIn K cd_done "_law_done" = true)
    (k_done : PySem.W.keepIn K (.ref f_done) = true)
    (a_walked : PySem.W.nsIn K mainGlobals "_law_walked" = some (some (.ref f_walked)))
    (l_walked : K.lookup f_walked = some ⟨oc_walked, od_walked, .func (PySem.W.fnOf "_law_walked" "_law_walked" (defArgs s_walked) (defBody s_walked) (defScope s_walked) .none kV_walked dc_walked pm_walked an_walked cd_walked ct_walked), sl_walked⟩)
    (c_walked : PySem.W.codeIn K cd_walked "_law_walked" = true)
    (k_walked : PySem.W.keepIn K (.ref f_walked) = true)
    (a_drawnC : PySem.W.nsIn K mainGlobals "_law_drawn_counter" = some (some (.ref f_drawnC)))
    (l_drawnC : K.lookup f_drawnC = some ⟨oc_drawnC, od_drawnC, .func (PySem.W.fnOf "_law_drawn_counter" "_law_drawn_counter" (defArgs s_drawnC) (defBody s_drawnC) (defScope s_drawnC) .none kV_drawnC dc_drawnC pm_drawnC an_drawnC cd_drawnC ct_drawnC), sl_drawnC⟩)
    (c_drawnC : PySem.W.codeIn K cd_drawnC "_law_drawn_counter" = true)
    (k_drawnC : PySem.W.keepIn K (.ref f_drawnC) = true)
    (a_net : PySem.W.nsIn K mainGlobals "_law_net" = some (some (.ref f_net)))
    (l_net : K.lookup f_net = some ⟨oc_net, od_net, .func (PySem.W.fnOf "_law_net" "_law_net" (defArgs s_net) (defBody s_net) (defScope s_net) .none kV_net dc_net pm_net an_net cd_net ct_net), sl_net⟩)
    (c_net : PySem.W.codeIn K cd_net "_law_net" = true)
    (k_net : PySem.W.keepIn K (.ref f_net) = true)
    (a_caught : PySem.W.nsIn K mainGlobals "_law_caught" = some (some (.ref f_caught)))
    (l_caught : K.lookup f_caught = some ⟨oc_caught, od_caught, .func (PySem.W.fnOf "_law_caught" "_law_caught" (defArgs s_caught) (defBody s_caught) (defScope s_caught) .none kV_caught dc_caught pm_caught an_caught cd_caught ct_caught), sl_caught⟩)
    (c_caught : PySem.W.codeIn K cd_caught "_law_caught" = true)
    (k_caught : PySem.W.keepIn K (.ref f_caught) = true)
    (a_netRows : PySem.W.nsIn K mainGlobals "_law_net_rows" = some (some (.ref f_netRows)))
    (l_netRows : K.lookup f_netRows = some ⟨oc_netRows, od_netRows, .func (PySem.W.fnOf "_law_net_rows" "_law_net_rows" (defArgs s_netRows) (defBody s_netRows) (defScope s_netRows) .none kV_netRows dc_netRows pm_netRows an_netRows cd_netRows ct_netRows), sl_netRows⟩)
    (c_netRows : PySem.W.codeIn K cd_netRows "_law_net_rows" = true)
    (k_netRows : PySem.W.keepIn K (.ref f_netRows) = true)
    (a_lrow : PySem.W.nsIn K mainGlobals "_law_row" = some (some (.ref f_lrow)))
    (l_lrow : K.lookup f_lrow = some ⟨oc_lrow, od_lrow, .func (PySem.W.fnOf "_law_row" "_law_row" (defArgs s_lrow) (defBody s_lrow) (defScope s_lrow) .none kV_lrow dc_lrow pm_lrow an_lrow cd_lrow ct_lrow), sl_lrow⟩)
    (c_lrow : PySem.W.codeIn K cd_lrow "_law_row" = true)
    (k_lrow : PySem.W.keepIn K (.ref f_lrow) = true)
    (a_rr : PySem.W.nsIn K mainGlobals "_law_row_right" = some (some (.ref f_rr)))
    (l_rr : K.lookup f_rr = some ⟨oc_rr, od_rr, .func (PySem.W.fnOf "_law_row_right" "_law_row_right" (defArgs s_rr) (defBody s_rr) (defScope s_rr) .none kV_rr dc_rr pm_rr an_rr (.ref c0_rr) ct_rr), sl_rr⟩)
    (c_rr : PySem.W.codeIn K (.ref c0_rr) "_law_row_right" = true)
    (k_rr : PySem.W.keepIn K (.ref f_rr) = true)
    (t_rr : lamB K c0_rr (tabA K c0_rr) = true)
    (a_sr : PySem.W.nsIn K mainGlobals "_law_standing_right" = some (some (.ref f_sr)))
    (l_sr : K.lookup f_sr = some ⟨oc_sr, od_sr, .func (PySem.W.fnOf "_law_standing_right" "_law_standing_right" (defArgs s_sr) (defBody s_sr) (defScope s_sr) .none kV_sr dc_sr pm_sr an_sr (.ref c0_sr) ct_sr), sl_sr⟩)
    (c_sr : PySem.W.codeIn K (.ref c0_sr) "_law_standing_right" = true)
    (k_sr : PySem.W.keepIn K (.ref f_sr) = true)
    (t_sr : lamB K c0_sr (tabA K c0_sr) = true)
    (a_law : PySem.W.nsIn K mainGlobals "law" = some (some (.ref f_law)))
    (l_law : K.lookup f_law = some ⟨oc_law, od_law, .func (PySem.W.fnOf "law" "law" (defArgs s_law) (defBody s_law) (defScope s_law) .none kV_law dc_law pm_law an_law cd_law ct_law), sl_law⟩)
    (c_law : PySem.W.codeIn K cd_law "law" = true)
    (k_law : PySem.W.keepIn K (.ref f_law) = true)
    (t_nd : decide ([tabA K c0_rr, tabA K c0_sr].Nodup) = true)
    (a_cinit : PySem.W.findIn K (.ref C) "__init__" = some (some (.ref f_cinit)))
    (i_cinit : PySem.W.isFn K (.ref f_cinit) = true)
    (l_cinit : K.lookup f_cinit = some ⟨oc_cinit, od_cinit, .func (PySem.W.fnOf "__init__" "Counter.__init__" (defArgs s_cinit) (defBody s_cinit) (defScope s_cinit) .none kV_cinit dc_cinit pm_cinit an_cinit cd_cinit ct_cinit), sl_cinit⟩)
    (c_cinit : PySem.W.codeIn K cd_cinit "Counter.__init__" = true)
    (k_cinit : PySem.W.keepIn K (.ref f_cinit) = true)
    (a_ninit : PySem.W.findIn K (.ref N) "__init__" = some (some (.ref f_ninit)))
    (i_ninit : PySem.W.isFn K (.ref f_ninit) = true)
    (l_ninit : K.lookup f_ninit = some ⟨oc_ninit, od_ninit, .func (PySem.W.fnOf "__init__" "Net.__init__" (defArgs s_ninit) (defBody s_ninit) (defScope s_ninit) .none kV_ninit dc_ninit pm_ninit an_ninit cd_ninit ct_ninit), sl_ninit⟩)
    (c_ninit : PySem.W.codeIn K cd_ninit "Net.__init__" = true)
    (k_ninit : PySem.W.keepIn K (.ref f_ninit) = true)
    (a_xc2 : PySem.W.findIn K (.ref c2) "__init__" = some (some (.ref f_xc2)))
    (i_xc2 : PySem.W.typeIn K (.ref f_xc2) = some (.type "function"))
    (l_xc2 : K.lookup f_xc2 = some ⟨oc_xc2, od_xc2, .func (PySem.W.fnOf "__init__" "BadRow.__init__" (defArgs (inClass (top 4) 0)) (defBody (inClass (top 4) 0)) (defScope (inClass (top 4) 0)) .none kV_xc2 dc_xc2 pm_xc2 an_xc2 cd_xc2 ct_xc2), sl_xc2⟩)
    (c_xc2 : PySem.W.codeIn K cd_xc2 "BadRow.__init__" = true)
    (k_xc2 : PySem.W.keepIn K (.ref f_xc2) = true)
    (o_c2 : oexC K c2 = true)
    (x_c2 : xokB K PE c2 ["what", "row"] = true)
    (s_c2 : aloneB K c2 [c0, c1, c2, c3, c4, c5, c6, c7, c8, c9, c10, c11] = true)
    (a_xc6 : PySem.W.findIn K (.ref c6) "__init__" = some (some (.ref f_xc6)))
    (i_xc6 : PySem.W.typeIn K (.ref f_xc6) = some (.type "function"))
    (l_xc6 : K.lookup f_xc6 = some ⟨oc_xc6, od_xc6, .func (PySem.W.fnOf "__init__" "NoDeed.__init__" (defArgs (inClass (top 9) 0)) (defBody (inClass (top 9) 0)) (defScope (inClass (top 9) 0)) .none kV_xc6 dc_xc6 pm_xc6 an_xc6 cd_xc6 ct_xc6), sl_xc6⟩)
    (c_xc6 : PySem.W.codeIn K cd_xc6 "NoDeed.__init__" = true)
    (k_xc6 : PySem.W.keepIn K (.ref f_xc6) = true)
    (o_c6 : oexC K c6 = true)
    (x_c6 : xokB K PE c6 ["deed"] = true)
    (s_c6 : aloneB K c6 [c0, c1, c2, c3, c4, c5, c6, c7, c8, c9, c10, c11] = true)
    (a_xc8 : PySem.W.findIn K (.ref c8) "__init__" = some (some (.ref f_xc8)))
    (i_xc8 : PySem.W.typeIn K (.ref f_xc8) = some (.type "function"))
    (l_xc8 : K.lookup f_xc8 = some ⟨oc_xc8, od_xc8, .func (PySem.W.fnOf "__init__" "NotDone.__init__" (defArgs (inClass (top 12) 0)) (defBody (inClass (top 12) 0)) (defScope (inClass (top 12) 0)) .none kV_xc8 dc_xc8 pm_xc8 an_xc8 cd_xc8 ct_xc8), sl_xc8⟩)
    (c_xc8 : PySem.W.codeIn K cd_xc8 "NotDone.__init__" = true)
    (k_xc8 : PySem.W.keepIn K (.ref f_xc8) = true)
    (o_c8 : oexC K c8 = true)
    (x_c8 : xokB K PE c8 ["index"] = true)
    (s_c8 : aloneB K c8 [c0, c1, c2, c3, c4, c5, c6, c7, c8, c9, c10, c11] = true)
    (s_nd : decide ([c0, c1, c2, c3, c4, c5, c6, c7, c8, c9, c10, c11].Nodup) = true)
    (pg_C : PySem.W.plainGet K C Str.empty = true)
    (hd_C : PySem.W.hasDictIn K C = true)
    (po_C : PySem.W.plainOver K C = true)
    (sa_C : PySem.W.findIn K (.ref C) "__setattr__" = some (some (.builtin "object.__setattr__")))
    (mk_C : PySem.W.makesIn K C = true)
    (kc_C : PySem.W.keepIn K (.ref C) = true)
    (ha_C : PySem.W.findIn K (.ref C) "__class__" = some (some (.builtin "object.__class__")))
    (hm_C : PySem.W.mroIn K C (.type "object") = some true)
    (n_C_first : PySem.W.findIn K (.ref C) "first" = some none)
    (n_C_takes : PySem.W.findIn K (.ref C) "takes" = some none)
    (n_C_puts : PySem.W.findIn K (.ref C) "puts" = some none)
    (pg_N : PySem.W.plainGet K N Str.empty = true)
    (hd_N : PySem.W.hasDictIn K N = true)
    (po_N : PySem.W.plainOver K N = true)
    (sa_N : PySem.W.findIn K (.ref N) "__setattr__" = some (some (.builtin "object.__setattr__")))
    (mk_N : PySem.W.makesIn K N = true)
    (kc_N : PySem.W.keepIn K (.ref N) = true)
    (ha_N : PySem.W.findIn K (.ref N) "__class__" = some (some (.builtin "object.__class__")))
    (hm_N : PySem.W.mroIn K N (.type "object") = some true)
    (n_N_deeds : PySem.W.findIn K (.ref N) "deeds" = some none)
    (n_N_counters : PySem.W.findIn K (.ref N) "counters" = some none)
    (n_N_rows : PySem.W.findIn K (.ref N) "rows" = some none)
    (hn : PySem.W.specialIn K (.builtin "object.__class__") "__get__" = some (some (.builtin "getset_descriptor.__get__")))
    (htk : PySem.W.takesIn K (.builtin "object.__class__") = some true)
    (b_isinstance : PySem.W.nsIn K mainGlobals "isinstance" = some none)
    (b_len : PySem.W.nsIn K mainGlobals "len" = some none)
    (b_int : PySem.W.nsIn K mainGlobals "int" = some none)
    (b_bool : PySem.W.nsIn K mainGlobals "bool" = some none)
    (b_str : PySem.W.nsIn K mainGlobals "str" = some none)
    (b_list : PySem.W.nsIn K mainGlobals "list" = some none)
    (b_tuple : PySem.W.nsIn K mainGlobals "tuple" = some none)
    (b_range : PySem.W.nsIn K mainGlobals "range" = some none)
    (b_all : PySem.W.nsIn K mainGlobals "all" = some none)
    (b_any : PySem.W.nsIn K mainGlobals "any" = some none)
    (b_zip : PySem.W.nsIn K mainGlobals "zip" = some none)
    (b_enumerate : PySem.W.nsIn K mainGlobals "enumerate" = some none)
    (b_min : PySem.W.nsIn K mainGlobals "min" = some none)
    (b_repr : PySem.W.nsIn K mainGlobals "repr" = some none)
    (s_L : PySem.W.nsIn K mainGlobals "LETTERS" = some (some (.str lettersS t_L)))
    (s_S : PySem.W.nsIn K mainGlobals "SIGNS" = some (some (.str signsS t_S)))
    : TopT l w K 10 63 "script" mg fa h := by
  have e := hfa.symm.trans (PySem.W.mg_of X G a_law)
  cases e
  simp only [List.all_cons, List.all_nil, Bool.and_true, Bool.and_eq_true] at hrec
  have B : Bl mg := ⟨PySem.W.mg_none_of X G b_isinstance, PySem.W.mg_none_of X G b_len, PySem.W.mg_none_of X G b_int, PySem.W.mg_none_of X G b_bool, PySem.W.mg_none_of X G b_str, PySem.W.mg_none_of X G b_list, PySem.W.mg_none_of X G b_tuple, PySem.W.mg_none_of X G b_range, PySem.W.mg_none_of X G b_all, PySem.W.mg_none_of X G b_any, PySem.W.mg_none_of X G b_zip, PySem.W.mg_none_of X G b_enumerate, PySem.W.mg_none_of X G b_min⟩
  have CF : CFx K mg "Counter" C cN := ⟨PySem.W.mg_of X G g_C, ⟨⟨pg_C, hd_C, po_C, sa_C⟩, ha_C, hn, htk, hm_C⟩, kit_self, fun f hf => by
    simp only [cN, List.mem_cons, List.not_mem_nil, or_false] at hf
    rcases hf with rfl | rfl | rfl
    · exact n_C_first
    · exact n_C_takes
    · exact n_C_puts⟩
  have NF : CFx K mg "Net" N nN := ⟨PySem.W.mg_of X G g_N, ⟨⟨pg_N, hd_N, po_N, sa_N⟩, ha_N, hn, htk, hm_N⟩, kit_self, fun f hf => by
    simp only [nN, List.mem_cons, List.not_mem_nil, or_false] at hf
    rcases hf with rfl | rfl | rfl
    · exact n_N_deeds
    · exact n_N_counters
    · exact n_N_rows⟩
  have PB : PeB K mg "PartsError" PE := ⟨PySem.W.mg_of X G g_PE, pe_ga, pe_rd, pe_fi⟩
  obtain ⟨O_c2, X_c2⟩ := oex_of o_c2 x_c2
  have F_xc2 := fun_mk (st := (inClass (top 4) 0)) l_xc2 c_xc2 k_xc2
  have b_xc2 := F_xc2.binds (ps := ["self", "what", "row"]) fun _ _ _ _ _ _ us hl => match us, hl with | [_, _, _], _ => rfl
  obtain ⟨O_c6, X_c6⟩ := oex_of o_c6 x_c6
  have F_xc6 := fun_mk (st := (inClass (top 9) 0)) l_xc6 c_xc6 k_xc6
  have b_xc6 := F_xc6.binds (ps := ["self", "deed"]) fun _ _ _ _ _ _ us hl => match us, hl with | [_, _], _ => rfl
  obtain ⟨O_c8, X_c8⟩ := oex_of o_c8 x_c8
  have F_xc8 := fun_mk (st := (inClass (top 12) 0)) l_xc8 c_xc8 k_xc8
  have b_xc8 := F_xc8.binds (ps := ["self", "index"]) fun _ _ _ _ _ _ us hl => match us, hl with | [_, _], _ => rfl
  have F_isWhole := fun_mk (st := s_is_whole) l_isWhole c_isWhole k_isWhole
  have b_isWhole := F_isWhole.binds (ps := ["value"]) fun _ _ _ _ _ _ us hl => match us, hl with | [_], _ => rfl
  have g_isWhole := PySem.W.mg_of X G a_isWhole
  have F_isNumber := fun_mk (st := s_is_number) l_isNumber c_isNumber k_isNumber
  have b_isNumber := F_isNumber.binds (ps := ["value"]) fun _ _ _ _ _ _ us hl => match us, hl with | [_], _ => rfl
  have g_isNumber := PySem.W.mg_of X G a_isNumber
  have F_asTuples := fun_mk (st := s_as_tuples) l_asTuples c_asTuples k_asTuples
  have b_asTuples := F_asTuples.binds (ps := ["value"]) fun _ _ _ _ _ _ us hl => match us, hl with | [_], _ => rfl
  have g_asTuples := PySem.W.mg_of X G a_asTuples
  have F_isWholes := fun_mk (st := s_is_wholes) l_isWholes c_isWholes k_isWholes
  have b_isWholes := F_isWholes.binds (ps := ["value", "many"]) fun _ _ _ _ _ _ us hl => match us, hl with | [_, _], _ => rfl
  have g_isWholes := PySem.W.mg_of X G a_isWholes
  have F_isNumbers := fun_mk (st := s_is_numbers) l_isNumbers c_isNumbers k_isNumbers
  have b_isNumbers := F_isNumbers.binds (ps := ["value", "many"]) fun _ _ _ _ _ _ us hl => match us, hl with | [_, _], _ => rfl
  have g_isNumbers := PySem.W.mg_of X G a_isNumbers
  have F_index := fun_mk (st := s_index) l_index c_index k_index
  have b_index := F_index.binds (ps := ["value", "many"]) fun _ _ _ _ _ _ us hl => match us, hl with | [_, _], _ => rfl
  have g_index := PySem.W.mg_of X G a_index
  have F_isName := fun_mk (st := s_is_name) l_isName c_isName k_isName
  have b_isName := F_isName.binds (ps := ["value"]) fun _ _ _ _ _ _ us hl => match us, hl with | [_], _ => rfl
  have g_isName := PySem.W.mg_of X G a_isName
  have F_short := fun_mk (st := s_short) l_short c_short k_short
  have b_short := F_short.binds (ps := ["deeds"]) fun _ _ _ _ _ _ us hl => match us, hl with | [_], _ => rfl
  have g_short := PySem.W.mg_of X G a_short
  have F_needDeed := fun_mk (st := s_needDeed) l_needDeed c_needDeed k_needDeed
  have b_needDeed := F_needDeed.binds (ps := ["behaviour", "deed"]) fun _ _ _ _ _ _ us hl => match us, hl with | [_, _], _ => rfl
  have g_needDeed := PySem.W.mg_of X G a_needDeed
  have F_needRow := fun_mk (st := s_needRow) l_needRow c_needRow k_needRow
  have b_needRow := F_needRow.binds (ps := ["behaviour", "run"]) fun _ _ _ _ _ _ us hl => match us, hl with | [_, _], _ => rfl
  have g_needRow := PySem.W.mg_of X G a_needRow
  have F_oneFor := fun_mk (st := s_oneFor) l_oneFor c_oneFor k_oneFor
  have b_oneFor := F_oneFor.binds (ps := ["value", "many"]) fun _ _ _ _ _ _ us hl => match us, hl with | [_, _], _ => rfl
  have g_oneFor := PySem.W.mg_of X G a_oneFor
  have F_changes := fun_mk (st := s_changes) l_changes c_changes k_changes
  have b_changes := F_changes.binds (ps := ["counter"]) fun _ _ _ _ _ _ us hl => match us, hl with | [_], _ => rfl
  have g_changes := PySem.W.mg_of X G a_changes
  have F_start := fun_mk (st := s_start) l_start c_start k_start
  have b_start := F_start.binds (ps := ["net"]) fun _ _ _ _ _ _ us hl => match us, hl with | [_], _ => rfl
  have g_start := PySem.W.mg_of X G a_start
  have F_lets := fun_mk (st := s_lets) l_lets c_lets k_lets
  have b_lets := F_lets.binds (ps := ["net", "standing", "deed"]) fun _ _ _ _ _ _ us hl => match us, hl with | [_, _, _], _ => rfl
  have g_lets := PySem.W.mg_of X G a_lets
  have F_moved := fun_mk (st := s_moved) l_moved c_moved k_moved
  have b_moved := F_moved.binds (ps := ["net", "standing", "deed"]) fun _ _ _ _ _ _ us hl => match us, hl with | [_, _, _], _ => rfl
  have g_moved := PySem.W.mg_of X G a_moved
  have F_needSt := fun_mk (st := s_needSt) l_needSt c_needSt k_needSt
  have b_needSt := F_needSt.binds (ps := ["net", "standing"]) fun _ _ _ _ _ _ us hl => match us, hl with | [_, _], _ => rfl
  have g_needSt := PySem.W.mg_of X G a_needSt
  have F_canDo := fun_mk (st := s_canDo) l_canDo c_canDo k_canDo
  have b_canDo := F_canDo.binds (ps := ["net", "standing", "deed"]) fun _ _ _ _ _ _ us hl => match us, hl with | [_, _, _], _ => rfl
  have g_canDo := PySem.W.mg_of X G a_canDo
  have F_netDeeds := fun_mk (st := s_netDeeds) l_netDeeds c_netDeeds k_netDeeds
  have b_netDeeds := F_netDeeds.binds (ps := ["net", "standing"]) fun _ _ _ _ _ _ us hl => match us, hl with | [_, _], _ => rfl
  have g_netDeeds := PySem.W.mg_of X G a_netDeeds
  have F_doneAt := fun_mk (st := s_doneAt) l_doneAt c_doneAt k_doneAt
  have b_doneAt := F_doneAt.binds (ps := ["net", "standing", "deed"]) fun _ _ _ _ _ _ us hl => match us, hl with | [_, _, _], _ => rfl
  have g_doneAt := PySem.W.mg_of X G a_doneAt
  have F_wkd := fun_mk (st := s_wkd) l_wkd c_wkd k_wkd
  have b_wkd := F_wkd.binds (ps := ["net", "standing", "row"]) fun _ _ _ _ _ _ us hl => match us, hl with | [_, _, _], _ => rfl
  have g_wkd := PySem.W.mg_of X G a_wkd
  have F_behind := fun_mk (st := s_behind) l_behind c_behind k_behind
  have b_behind := F_behind.binds (ps := ["net", "run"]) fun _ _ _ _ _ _ us hl => match us, hl with | [_, _], _ => rfl
  have g_behind := PySem.W.mg_of X G a_behind
  have F_isRun := fun_mk (st := s_isRun) l_isRun c_isRun k_isRun
  have b_isRun := F_isRun.binds (ps := ["net", "value"]) fun _ _ _ _ _ _ us hl => match us, hl with | [_, _], _ => rfl
  have g_isRun := PySem.W.mg_of X G a_isRun
  have F_pen := fun_mk (st := s_pen) l_pen c_pen k_pen
  have b_pen := F_pen.binds (ps := ["script"]) fun _ _ _ _ _ _ us hl => match us, hl with | [_], _ => rfl
  have g_pen := PySem.W.mg_of X G a_pen
  have F_draw := fun_mk (st := s_draw) l_draw c_draw k_draw
  have b_draw := F_draw.binds (ps := ["pen", "many"]) fun _ _ _ _ _ _ us hl => match us, hl with | [_, _], _ => rfl
  have g_draw := PySem.W.mg_of X G a_draw
  have F_pick := fun_mk (st := s_pick) l_pick c_pick k_pick
  have b_pick := F_pick.binds (ps := ["pen", "some"]) fun _ _ _ _ _ _ us hl => match us, hl with | [_, _], _ => rfl
  have g_pick := PySem.W.mg_of X G a_pick
  have F_shuf := fun_mk (st := s_shuf) l_shuf c_shuf k_shuf
  have b_shuf := F_shuf.binds (ps := ["pen", "some"]) fun _ _ _ _ _ _ us hl => match us, hl with | [_, _], _ => rfl
  have g_shuf := PySem.W.mg_of X G a_shuf
  have F_is := fun_mk (st := s_is) l_is c_is k_is
  have b_is := F_is.binds (ps := ["told", "due"]) fun _ _ _ _ _ _ us hl => match us, hl with | [_, _], _ => rfl
  have g_is := PySem.W.mg_of X G a_is
  have F_name := fun_mk (st := s_name) l_name c_name k_name
  have b_name := F_name.binds (ps := ["pen"]) fun _ _ _ _ _ _ us hl => match us, hl with | [_], _ => rfl
  have g_name := PySem.W.mg_of X G a_name
  have F_names := fun_mk (st := s_names) l_names c_names k_names
  have b_names := F_names.binds (ps := ["pen", "many"]) fun _ _ _ _ _ _ us hl => match us, hl with | [_, _], _ => rfl
  have g_names := PySem.W.mg_of X G a_names
  have F_lstart := fun_mk (st := s_lstart) l_lstart c_lstart k_lstart
  have b_lstart := F_lstart.binds (ps := ["net"]) fun _ _ _ _ _ _ us hl => match us, hl with | [_], _ => rfl
  have g_lstart := PySem.W.mg_of X G a_lstart
  have F_can := fun_mk (st := s_can) l_can c_can k_can
  have b_can := F_can.binds (ps := ["net", "standing", "deed"]) fun _ _ _ _ _ _ us hl => match us, hl with | [_, _, _], _ => rfl
  have g_can := PySem.W.mg_of X G a_can
  have F_done := fun_mk (st := s_done) l_done c_done k_done
  have b_done := F_done.binds (ps := ["net", "standing", "deed"]) fun _ _ _ _ _ _ us hl => match us, hl with | [_, _, _], _ => rfl
  have g_done := PySem.W.mg_of X G a_done
  have F_walked := fun_mk (st := s_walked) l_walked c_walked k_walked
  have b_walked := F_walked.binds (ps := ["net", "standing", "run"]) fun _ _ _ _ _ _ us hl => match us, hl with | [_, _, _], _ => rfl
  have g_walked := PySem.W.mg_of X G a_walked
  have F_drawnC := fun_mk (st := s_drawnC) l_drawnC c_drawnC k_drawnC
  have b_drawnC := F_drawnC.binds (ps := ["pen", "deeds", "top"]) fun _ _ _ _ _ _ us hl => match us, hl with | [_, _, _], _ => rfl
  have g_drawnC := PySem.W.mg_of X G a_drawnC
  have F_net := fun_mk (st := s_net) l_net c_net k_net
  have b_net := F_net.binds (ps := ["net"]) fun _ _ _ _ _ _ us hl => match us, hl with | [_], _ => rfl
  have g_net := PySem.W.mg_of X G a_net
  have F_caught := fun_mk (st := s_caught) l_caught c_caught k_caught
  have b_caught := F_caught.binds (ps := ["action"]) fun _ _ _ _ _ _ us hl => match us, hl with | [_], _ => rfl
  have g_caught := PySem.W.mg_of X G a_caught
  have F_netRows := fun_mk (st := s_netRows) l_netRows c_netRows k_netRows
  have b_netRows := F_netRows.binds (ps := ["pen"]) fun _ _ _ _ _ _ us hl => match us, hl with | [_], _ => rfl
  have g_netRows := PySem.W.mg_of X G a_netRows
  have F_lrow := fun_mk (st := s_lrow) l_lrow c_lrow k_lrow
  have b_lrow := F_lrow.binds (ps := ["pen", "net"]) fun _ _ _ _ _ _ us hl => match us, hl with | [_, _], _ => rfl
  have g_lrow := PySem.W.mg_of X G a_lrow
  have F_rr := funL_mk (st := s_rr) l_rr c_rr
  have g_rr := PySem.W.mg_of X G a_rr
  have F_sr := funL_mk (st := s_sr) l_sr c_sr
  have g_sr := PySem.W.mg_of X G a_sr
  have F_law := fun_mk (st := s_law) l_law c_law k_law
  have b_law := F_law.binds (ps := ["script"]) fun _ _ _ _ _ _ us hl => match us, hl with | [_], _ => rfl
  have g_law := PySem.W.mg_of X G a_law
  have F_cinit := fun_mk (st := s_cinit) l_cinit c_cinit k_cinit
  have b_cinit := F_cinit.binds (ps := ["self", "first", "takes", "puts"]) fun _ _ _ _ _ _ us hl => match us, hl with | [_, _, _, _], _ => rfl
  have F_ninit := fun_mk (st := s_ninit) l_ninit c_ninit k_ninit
  have b_ninit := F_ninit.binds (ps := ["self", "deeds", "counters"]) fun _ _ _ _ _ _ us hl => match us, hl with | [_, _, _], _ => rfl
  have e_rr := tab_empty em hrec.1 g_rr l_rr rfl t_rr
  have e_sr := tab_empty em hrec.2 g_sr l_sr rfl t_sr
  refine topT_mk (fd := PySem.W.fnOf "law" "law" (defArgs s_law) (defBody s_law) (defScope s_law) .none kV_law dc_law pm_law an_law cd_law ct_law) [(c0_rr, tabA K c0_rr, lq "_law_row_right"), (c0_sr, tabA K c0_sr, lq "_law_standing_right")] (fun p hp => ?_) (of_decide_eq_true t_nd) (fun s v => .of_eq rfl) (fun ns hl => g_spLaw ns) fun base KB GB TBs => ?_
  · simp only [List.mem_cons, List.not_mem_nil, or_false] at hp
    rcases hp with rfl | rfl
    · exact ⟨e_rr, t_rr⟩
    · exact ⟨e_sr, t_sr⟩
  have T_rr := TBs (c0_rr, tabA K c0_rr, lq "_law_row_right") (by simp)
  have T_sr := TBs (c0_sr, tabA K c0_sr, lq "_law_standing_right") (by simp)
  have M_c2 : XMk l.prog w K mg base "BadRow" c2 ["what", "row"] := ⟨_, _, _, O_c2, PySem.W.mg_of X G g_c2, a_xc2, i_xc2, b_xc2, ok_x4 PB O_c2 (X_c2.no _ (by simp)) (X_c2.no _ (by simp)) F_xc2⟩
  have M_c6 : XMk l.prog w K mg base "NoDeed" c6 ["deed"] := ⟨_, _, _, O_c6, PySem.W.mg_of X G g_c6, a_xc6, i_xc6, b_xc6, ok_x9 PB O_c6 (X_c6.no _ (by simp)) F_xc6⟩
  have M_c8 : XMk l.prog w K mg base "NotDone" c8 ["index"] := ⟨_, _, _, O_c8, PySem.W.mg_of X G g_c8, a_xc8, i_xc8, b_xc8, ok_x12 PB O_c8 (X_c8.no _ (by simp)) F_xc8⟩
  have nd := of_decide_eq_true s_nd
  have d_isWhole := def_mk (P := l.prog) (w := w) (base := base) g_isWhole F_isWhole b_isWhole (ok_is_whole B F_isWhole)
  have d_wholeG := def_mk (P := l.prog) (w := w) (base := base) g_isWhole F_isWhole b_isWhole (ok_wholeG B F_isWhole)
  have d_wh := def_mk (P := l.prog) (w := w) (base := base) g_isWhole F_isWhole b_isWhole (ok_wh B F_isWhole)
  have d_isNumber := def_mk (P := l.prog) (w := w) (base := base) g_isNumber F_isNumber b_isNumber (ok_is_number F_isNumber d_isWhole)
  have d_tup0 := def_mk (P := l.prog) (w := w) (base := base) g_asTuples F_asTuples b_asTuples (ok_tup0 B F_asTuples)
  have d_tup := def_mk (P := l.prog) (w := w) (base := base) g_asTuples F_asTuples b_asTuples (ok_tup B F_asTuples d_tup0)
  have d_isWholes := def_mk (P := l.prog) (w := w) (base := base) g_isWholes F_isWholes b_isWholes (ok_is_wholes B F_isWholes d_isWhole)
  have d_whs := def_mk (P := l.prog) (w := w) (base := base) g_isWholes F_isWholes b_isWholes (ok_whs B F_isWholes d_wh)
  have d_isNumbers := def_mk (P := l.prog) (w := w) (base := base) g_isNumbers F_isNumbers b_isNumbers (ok_is_numbers B F_isNumbers d_isWholes)
  have d_nms := def_mk (P := l.prog) (w := w) (base := base) g_isNumbers F_isNumbers b_isNumbers (ok_nms B F_isNumbers d_whs)
  have d_index := def_mk (P := l.prog) (w := w) (base := base) g_index F_index b_index (ok_index F_index d_wholeG)
  have d_isName := def_mk (P := l.prog) (w := w) (base := base) g_isName F_isName b_isName (ok_is_name B (PySem.W.mg_of X G s_L) (PySem.W.mg_of X G s_S) F_isName)
  have d_short := def_mk (P := l.prog) (w := w) (base := base) g_short F_short b_short (ok_short B F_short d_isName)
  have d_needDeed := def_mk (P := l.prog) (w := w) (base := base) g_needDeed F_needDeed b_needDeed (ok_needDeed (C := C) B NF M_c6 F_needDeed d_index)
  have d_needRow := def_mk (P := l.prog) (w := w) (base := base) g_needRow F_needRow b_needRow (ok_needRow B F_needRow d_needDeed)
  have d_oneFor := def_mk (P := l.prog) (w := w) (base := base) g_oneFor F_oneFor b_oneFor (ok_oneFor B CF F_oneFor d_isNumber d_isNumbers)
  have d_changes := def_mk (P := l.prog) (w := w) (base := base) g_changes F_changes b_changes (ok_changes B CF F_changes)
  have kC : Mkr l.prog w K mg base 3 "Counter" C spCounter := ⟨_, _, _, PySem.W.mg_of X G g_C, ⟨mk_C, a_cinit, i_cinit, kc_C⟩, b_cinit, ok_cinit CF F_cinit d_tup0 d_tup⟩
  have kN : Mkr l.prog w K mg base 5 "Net" N (spNet C N) := ⟨_, _, _, PySem.W.mg_of X G g_N, ⟨mk_N, a_ninit, i_ninit, kc_N⟩, b_ninit, ok_ninit B NF F_ninit d_short d_oneFor d_changes⟩
  have d_start := def_mk (P := l.prog) (w := w) (base := base) g_start F_start b_start (ok_start B CF NF F_start)
  have d_lets := def_mk (P := l.prog) (w := w) (base := base) g_lets F_lets b_lets (ok_lets B CF NF F_lets)
  have d_moved := def_mk (P := l.prog) (w := w) (base := base) g_moved F_moved b_moved (ok_moved (C := C) B NF F_moved)
  have d_needSt := def_mk (P := l.prog) (w := w) (base := base) g_needSt F_needSt b_needSt (ok_needSt (C := C) B NF M_c2 F_needSt d_nms)
  have d_canDo := def_mk (P := l.prog) (w := w) (base := base) g_canDo F_canDo b_canDo (ok_canDo F_canDo d_needSt d_needDeed d_lets)
  have d_netDeeds := def_mk (P := l.prog) (w := w) (base := base) g_netDeeds F_netDeeds b_netDeeds (ok_netDeeds B NF F_netDeeds d_needSt d_lets)
  have d_doneAt := def_mk (P := l.prog) (w := w) (base := base) g_doneAt F_doneAt b_doneAt (ok_doneAt M_c8 F_doneAt d_canDo d_moved)
  have d_wkd := def_mk (P := l.prog) (w := w) (base := base) g_wkd F_wkd b_wkd (ok_wkd B F_wkd d_lets d_moved)
  have d_behind := def_mk (P := l.prog) (w := w) (base := base) g_behind F_behind b_behind (ok_behind M_c8 F_behind d_start d_needRow d_wkd)
  have d_isRun := def_mk (P := l.prog) (w := w) (base := base) g_isRun F_isRun b_isRun (ok_isRun B NF F_isRun d_start d_index d_wkd)
  have d_pen := def_mk (P := l.prog) (w := w) (base := base) g_pen F_pen b_pen (ok_pen B F_pen)
  have d_draw := def_mk (P := l.prog) (w := w) (base := base) g_draw F_draw b_draw (ok_draw B F_draw)
  have d_pickS := def_mk (P := l.prog) (w := w) (base := base) g_pick F_pick b_pick (ok_pickS B F_pick d_draw)
  have d_pickL := def_mk (P := l.prog) (w := w) (base := base) g_pick F_pick b_pick (ok_pickL B F_pick d_draw)
  have d_shuf := def_mk (P := l.prog) (w := w) (base := base) g_shuf F_shuf b_shuf (ok_shuf B F_shuf d_draw)
  have d_name := def_mk (P := l.prog) (w := w) (base := base) g_name F_name b_name (ok_name B F_name d_draw d_pickS)
  have d_names := def_mk (P := l.prog) (w := w) (base := base) g_names F_names b_names (ok_names B F_names d_name)
  have d_lstart := def_mk (P := l.prog) (w := w) (base := base) g_lstart F_lstart b_lstart (ok_lstart B F_lstart)
  have d_can := def_mk (P := l.prog) (w := w) (base := base) g_can F_can b_can (ok_can B F_can)
  have d_done := def_mk (P := l.prog) (w := w) (base := base) g_done F_done b_done (ok_done B F_done)
  have d_walkedO := def_mk (P := l.prog) (w := w) (base := base) g_walked F_walked b_walked (ok_walkedO B F_walked d_can d_done)
  have d_drawnC := def_mk (P := l.prog) (w := w) (base := base) g_drawnC F_drawnC b_drawnC (ok_drawnC B F_drawnC d_draw)
  have d_net := def_mk (P := l.prog) (w := w) (base := base) g_net F_net b_net (ok_net F_net kC kN)
  have d_netRows := def_mk (P := l.prog) (w := w) (base := base) g_netRows F_netRows b_netRows (ok_netRows B F_netRows d_draw d_names d_drawnC)
  have d_lrow := def_mk (P := l.prog) (w := w) (base := base) g_lrow F_lrow b_lrow (ok_lrow B F_lrow d_draw d_pickL d_lstart d_can d_walkedO)
  have d_is : ∀ n, Def l.prog w K mg base (n + 1) "_law_is" (spIs n) := fun n => by
    induction n with
    | zero => exact DL.def_mk (P := l.prog) (w := w) (base := base) g_is F_is b_is (ok_is 0 B F_is fun m e => nomatch e)
    | succ n ih => exact DL.def_mk (P := l.prog) (w := w) (base := base) g_is F_is b_is (ok_is (n + 1) B F_is fun m e => by cases e; exact ih)
  have XGs : XG K mg c0 c1 c2 c3 c4 c5 c6 c7 c8 c9 c10 c11 := ⟨PySem.W.mg_of X G g_c0, PySem.W.mg_of X G g_c1, PySem.W.mg_of X G g_c2, PySem.W.mg_of X G g_c3, PySem.W.mg_of X G g_c4, PySem.W.mg_of X G g_c5, PySem.W.mg_of X G g_c6, PySem.W.mg_of X G g_c7, PySem.W.mg_of X G g_c8, PySem.W.mg_of X G g_c9, PySem.W.mg_of X G g_c10, PySem.W.mg_of X G g_c11⟩
  have al2 : ∀ {D : Addr}, D ∈ [c0, c1, c2, c3, c4, c5, c6, c7, c8, c9, c10, c11] → PySem.W.kitOne K (.ref c2) (.ref D) = some (c2 == D) := fun hD => alone_of s_c2 hD
  have k2_0 : PySem.W.kitOne K (.ref c2) (.ref c0) = some false := (al2 (by simp)).trans (by rw [show (c2 == c0) = false from nd_ne nd (i := 2) (j := 0) rfl rfl (by decide)])
  have k2_1 : PySem.W.kitOne K (.ref c2) (.ref c1) = some false := (al2 (by simp)).trans (by rw [show (c2 == c1) = false from nd_ne nd (i := 2) (j := 1) rfl rfl (by decide)])
  have k2_3 : PySem.W.kitOne K (.ref c2) (.ref c3) = some false := (al2 (by simp)).trans (by rw [show (c2 == c3) = false from nd_ne nd (i := 2) (j := 3) rfl rfl (by decide)])
  have k2_4 : PySem.W.kitOne K (.ref c2) (.ref c4) = some false := (al2 (by simp)).trans (by rw [show (c2 == c4) = false from nd_ne nd (i := 2) (j := 4) rfl rfl (by decide)])
  have k2_5 : PySem.W.kitOne K (.ref c2) (.ref c5) = some false := (al2 (by simp)).trans (by rw [show (c2 == c5) = false from nd_ne nd (i := 2) (j := 5) rfl rfl (by decide)])
  have k2_6 : PySem.W.kitOne K (.ref c2) (.ref c6) = some false := (al2 (by simp)).trans (by rw [show (c2 == c6) = false from nd_ne nd (i := 2) (j := 6) rfl rfl (by decide)])
  have k2_7 : PySem.W.kitOne K (.ref c2) (.ref c7) = some false := (al2 (by simp)).trans (by rw [show (c2 == c7) = false from nd_ne nd (i := 2) (j := 7) rfl rfl (by decide)])
  have k2_8 : PySem.W.kitOne K (.ref c2) (.ref c8) = some false := (al2 (by simp)).trans (by rw [show (c2 == c8) = false from nd_ne nd (i := 2) (j := 8) rfl rfl (by decide)])
  have k2_9 : PySem.W.kitOne K (.ref c2) (.ref c9) = some false := (al2 (by simp)).trans (by rw [show (c2 == c9) = false from nd_ne nd (i := 2) (j := 9) rfl rfl (by decide)])
  have k2_10 : PySem.W.kitOne K (.ref c2) (.ref c10) = some false := (al2 (by simp)).trans (by rw [show (c2 == c10) = false from nd_ne nd (i := 2) (j := 10) rfl rfl (by decide)])
  have k2_11 : PySem.W.kitOne K (.ref c2) (.ref c11) = some false := (al2 (by simp)).trans (by rw [show (c2 == c11) = false from nd_ne nd (i := 2) (j := 11) rfl rfl (by decide)])
  have al6 : ∀ {D : Addr}, D ∈ [c0, c1, c2, c3, c4, c5, c6, c7, c8, c9, c10, c11] → PySem.W.kitOne K (.ref c6) (.ref D) = some (c6 == D) := fun hD => alone_of s_c6 hD
  have k6_0 : PySem.W.kitOne K (.ref c6) (.ref c0) = some false := (al6 (by simp)).trans (by rw [show (c6 == c0) = false from nd_ne nd (i := 6) (j := 0) rfl rfl (by decide)])
  have k6_1 : PySem.W.kitOne K (.ref c6) (.ref c1) = some false := (al6 (by simp)).trans (by rw [show (c6 == c1) = false from nd_ne nd (i := 6) (j := 1) rfl rfl (by decide)])
  have k6_2 : PySem.W.kitOne K (.ref c6) (.ref c2) = some false := (al6 (by simp)).trans (by rw [show (c6 == c2) = false from nd_ne nd (i := 6) (j := 2) rfl rfl (by decide)])
  have k6_3 : PySem.W.kitOne K (.ref c6) (.ref c3) = some false := (al6 (by simp)).trans (by rw [show (c6 == c3) = false from nd_ne nd (i := 6) (j := 3) rfl rfl (by decide)])
  have k6_4 : PySem.W.kitOne K (.ref c6) (.ref c4) = some false := (al6 (by simp)).trans (by rw [show (c6 == c4) = false from nd_ne nd (i := 6) (j := 4) rfl rfl (by decide)])
  have k6_5 : PySem.W.kitOne K (.ref c6) (.ref c5) = some false := (al6 (by simp)).trans (by rw [show (c6 == c5) = false from nd_ne nd (i := 6) (j := 5) rfl rfl (by decide)])
  have k6_7 : PySem.W.kitOne K (.ref c6) (.ref c7) = some false := (al6 (by simp)).trans (by rw [show (c6 == c7) = false from nd_ne nd (i := 6) (j := 7) rfl rfl (by decide)])
  have k6_8 : PySem.W.kitOne K (.ref c6) (.ref c8) = some false := (al6 (by simp)).trans (by rw [show (c6 == c8) = false from nd_ne nd (i := 6) (j := 8) rfl rfl (by decide)])
  have k6_9 : PySem.W.kitOne K (.ref c6) (.ref c9) = some false := (al6 (by simp)).trans (by rw [show (c6 == c9) = false from nd_ne nd (i := 6) (j := 9) rfl rfl (by decide)])
  have k6_10 : PySem.W.kitOne K (.ref c6) (.ref c10) = some false := (al6 (by simp)).trans (by rw [show (c6 == c10) = false from nd_ne nd (i := 6) (j := 10) rfl rfl (by decide)])
  have k6_11 : PySem.W.kitOne K (.ref c6) (.ref c11) = some false := (al6 (by simp)).trans (by rw [show (c6 == c11) = false from nd_ne nd (i := 6) (j := 11) rfl rfl (by decide)])
  have al8 : ∀ {D : Addr}, D ∈ [c0, c1, c2, c3, c4, c5, c6, c7, c8, c9, c10, c11] → PySem.W.kitOne K (.ref c8) (.ref D) = some (c8 == D) := fun hD => alone_of s_c8 hD
  have k8_0 : PySem.W.kitOne K (.ref c8) (.ref c0) = some false := (al8 (by simp)).trans (by rw [show (c8 == c0) = false from nd_ne nd (i := 8) (j := 0) rfl rfl (by decide)])
  have k8_1 : PySem.W.kitOne K (.ref c8) (.ref c1) = some false := (al8 (by simp)).trans (by rw [show (c8 == c1) = false from nd_ne nd (i := 8) (j := 1) rfl rfl (by decide)])
  have k8_2 : PySem.W.kitOne K (.ref c8) (.ref c2) = some false := (al8 (by simp)).trans (by rw [show (c8 == c2) = false from nd_ne nd (i := 8) (j := 2) rfl rfl (by decide)])
  have k8_3 : PySem.W.kitOne K (.ref c8) (.ref c3) = some false := (al8 (by simp)).trans (by rw [show (c8 == c3) = false from nd_ne nd (i := 8) (j := 3) rfl rfl (by decide)])
  have k8_4 : PySem.W.kitOne K (.ref c8) (.ref c4) = some false := (al8 (by simp)).trans (by rw [show (c8 == c4) = false from nd_ne nd (i := 8) (j := 4) rfl rfl (by decide)])
  have k8_5 : PySem.W.kitOne K (.ref c8) (.ref c5) = some false := (al8 (by simp)).trans (by rw [show (c8 == c5) = false from nd_ne nd (i := 8) (j := 5) rfl rfl (by decide)])
  have k8_6 : PySem.W.kitOne K (.ref c8) (.ref c6) = some false := (al8 (by simp)).trans (by rw [show (c8 == c6) = false from nd_ne nd (i := 8) (j := 6) rfl rfl (by decide)])
  have k8_7 : PySem.W.kitOne K (.ref c8) (.ref c7) = some false := (al8 (by simp)).trans (by rw [show (c8 == c7) = false from nd_ne nd (i := 8) (j := 7) rfl rfl (by decide)])
  have k8_9 : PySem.W.kitOne K (.ref c8) (.ref c9) = some false := (al8 (by simp)).trans (by rw [show (c8 == c9) = false from nd_ne nd (i := 8) (j := 9) rfl rfl (by decide)])
  have k8_10 : PySem.W.kitOne K (.ref c8) (.ref c10) = some false := (al8 (by simp)).trans (by rw [show (c8 == c10) = false from nd_ne nd (i := 8) (j := 10) rfl rfl (by decide)])
  have k8_11 : PySem.W.kitOne K (.ref c8) (.ref c11) = some false := (al8 (by simp)).trans (by rw [show (c8 == c11) = false from nd_ne nd (i := 8) (j := 11) rfl rfl (by decide)])
  have cg := ok_caught (P := l.prog) (w := w) (base := base) B g_caught F_caught b_caught PB.g XGs X_c2 X_c6 X_c8 k2_0 k2_1 kit_self k2_3 k2_4 k2_5 k2_6 k2_7 k2_8 k2_9 k2_10 k2_11 k6_0 k6_1 k6_2 k6_3 k6_4 k6_5 kit_self k6_7 k6_8 k6_9 k6_10 k6_11 k8_0 k8_1 k8_2 k8_3 k8_4 k8_5 k8_6 k8_7 kit_self k8_9 k8_10 k8_11
  have AK : AllK l.prog w K mg base C N c2 c6 c8 := ⟨B, PySem.W.mg_none_of X G b_repr, d_draw, d_pickL, d_lrow, d_walkedO, d_lstart, d_can, d_done, d_shuf, d_isRun, d_behind, d_netDeeds, d_canDo, d_doneAt, d_is 0, d_is 1, cg⟩
  have d_rr : DefT l.prog w K mg base [(tabA K c0_rr, lq "_law_row_right"), (tabA K c0_sr, lq "_law_standing_right")] 9 "_law_row_right" (spRR C N) := defT_mk (ps := ["pen", "net", "made"]) g_rr k_rr (.all fun us hl => match us, hl with | [_, _, _], _ => rfl) (ok_rr (by simp) AK F_rr T_rr)
  have d_sr : DefT l.prog w K mg base [(tabA K c0_rr, lq "_law_row_right"), (tabA K c0_sr, lq "_law_standing_right")] 9 "_law_standing_right" (spSR C N) := defT_mk (ps := ["pen", "net", "made"]) g_sr k_sr (.all fun us hl => match us, hl with | [_, _, _], _ => rfl) (ok_sr (by simp) AK F_sr T_sr)
  have FL_law : FunL K "law" "law" s_law fa _ cd_law := ⟨_, _, _, _, _, _, _, _, rfl, l_law, c_law⟩
  exact ok_law ⟨B, d_pen, d_netRows, d_net, d_start, d_lstart, d_is 1, d_rr, d_sr⟩ FL_law
theorem walk {l : PySem.W.OpenLaw} {q : Program} {loose : List Str} {XP : (Str → Option Value) → Heap → Prop} {YP : World → Heap → Prop} {d : DefRec} {K : Params → PySem.W.Frag} (hn : l.most = some 63) (hdf : d.params.defaults = [])
    (hY : ∀ (w : World) (h : Heap), YP w h → (K w.params).In h)
    (F : ∀ (w : World) (mg : Str → Option Value) (fa : Addr) (h : Heap), (K w.params).In h → h.Ns mainGlobals mg → mg d.name = some (.ref fa) → Empt q (K w.params) mg h → TopT l w (K w.params) 10 63 "script" mg fa h) :
    PySem.W.WalkO q loose XP YP l.row.toRowW d [] (fun f vs => PySem.call f vs) := walk_T (n := 63) (k := 10) (x := "script") hn (by decide) hdf ⟨rfl, by decide, by decide⟩ hY F
end K38
end
set_option Elab.async false
set_option linter.all false
open PySem PySem.W PyProof.Rows
set_option maxRecDepth 100000 in
set_option maxHeartbeats 0 in
theorem PySem.Challenge.cw_partsfound_k38_standings_walked_holds : PySem.Challenge.rw_partsfound_k38_standings_walked.Holds := by
  w_on; o_law; k_head; (case hw => w_witness2)
  k_fill
  refine K38.walk (l := PySem.Challenge.rw_partsfound_k38_standings_walked) rfl rfl (fun w h Y => PySem.W.km_in_of Y) ?F
  case F =>
    intro w mg fa h KX G hmg em
    refine' K38.all_mk KX G hmg em (by decide +kernel) ?g_C ?g_N ?g_c0 ?g_c1 ?g_c2 ?g_c3 ?g_c4 ?g_c5 ?g_c6 ?g_c7 ?g_c8 ?g_c9 ?g_c10 ?g_c11 ?g_PE ?pe_ga ?pe_rd ?pe_fi ?a_isWhole ?l_isWhole ?c_isWhole ?k_isWhole ?a_isNumber ?l_isNumber ?c_isNumber ?k_isNumber ?a_asTuples ?l_asTuples ?c_asTuples ?k_asTuples ?a_isWholes ?l_isWholes ?c_isWholes ?k_isWholes ?a_isNumbers ?l_isNumbers ?c_isNumbers ?k_isNumbers ?a_index ?l_index ?c_index ?k_index ?a_isName ?l_isName ?c_isName ?k_isName ?a_short ?l_short ?c_short ?k_short ?a_needDeed ?l_needDeed ?c_needDeed ?k_needDeed ?a_needRow ?l_needRow ?c_needRow ?k_needRow ?a_oneFor ?l_oneFor ?c_oneFor ?k_oneFor ?a_changes ?l_changes ?c_changes ?k_changes ?a_start ?l_start ?c_start ?k_start ?a_lets ?l_lets ?c_lets ?k_lets ?a_moved ?l_moved ?c_moved ?k_moved ?a_needSt ?l_needSt ?c_needSt ?k_needSt ?a_canDo ?l_canDo ?c_canDo ?k_canDo ?a_netDeeds ?l_netDeeds ?c_netDeeds ?k_netDeeds ?a_doneAt ?l_doneAt ?c_doneAt ?k_doneAt ?a_wkd ?l_wkd ?c_wkd ?k_wkd ?a_behind ?l_behind ?c_behind ?k_behind ?a_isRun ?l_isRun ?c_isRun ?k_isRun ?a_pen ?l_pen ?c_pen ?k_pen ?a_draw ?l_draw ?c_draw ?k_draw ?a_pick ?l_pick ?c_pick ?k_pick ?a_shuf ?l_shuf ?c_shuf ?k_shuf ?a_is ?l_is ?c_is ?k_is ?a_name ?l_name ?c_name ?k_name ?a_names ?l_names ?c_names ?k_names ?a_lstart ?l_lstart ?c_lstart ?k_lstart ?a_can ?l_can ?c_can ?k_can ?a_done ?l_done ?c_done ?k_done ?a_walked ?l_walked ?c_walked ?k_walked ?a_drawnC ?l_drawnC ?c_drawnC ?k_drawnC ?a_net ?l_net ?c_net ?k_net ?a_caught ?l_caught ?c_caught ?k_caught ?a_netRows ?l_netRows ?c_netRows ?k_netRows ?a_lrow ?l_lrow ?c_lrow ?k_lrow ?a_rr ?l_rr ?c_rr ?k_rr ?t_rr ?a_sr ?l_sr ?c_sr ?k_sr ?t_sr ?a_law ?l_law ?c_law ?k_law ?t_nd ?a_cinit ?i_cinit ?l_cinit ?c_cinit ?k_cinit ?a_ninit ?i_ninit ?l_ninit ?c_ninit ?k_ninit ?a_xc2 ?i_xc2 ?l_xc2 ?c_xc2 ?k_xc2 ?o_c2 ?x_c2 ?s_c2 ?a_xc6 ?i_xc6 ?l_xc6 ?c_xc6 ?k_xc6 ?o_c6 ?x_c6 ?s_c6 ?a_xc8 ?i_xc8 ?l_xc8 ?c_xc8 ?k_xc8 ?o_c8 ?x_c8 ?s_c8 ?s_nd ?pg_C ?hd_C ?po_C ?sa_C ?mk_C ?kc_C ?ha_C ?hm_C ?n_C_first ?n_C_takes ?n_C_puts ?pg_N ?hd_N ?po_N ?sa_N ?mk_N ?kc_N ?ha_N ?hm_N ?n_N_deeds ?n_N_counters ?n_N_rows ?hn ?htk ?b_isinstance ?b_len ?b_int ?b_bool ?b_str ?b_list ?b_tuple ?b_range ?b_all ?b_any ?b_zip ?b_enumerate ?b_min ?b_repr ?s_L ?s_S
    (case g_C => k_is)
    (case g_N => k_is)
    (case g_c0 => k_is)
    (case g_c1 => k_is)
    (case g_c2 => k_is)
    (case g_c3 => k_is)
    (case g_c4 => k_is)
    (case g_c5 => k_is)
    (case g_c6 => k_is)
    (case g_c7 => k_is)
    (case g_c8 => k_is)
    (case g_c9 => k_is)
    (case g_c10 => k_is)
    (case g_c11 => k_is)
    (case g_PE => k_is)
    (case pe_ga => k_is)
    (case pe_rd => k_is)
    (case pe_fi => k_is)
    (case a_isWhole => k_is)
    (case l_isWhole => k_is)
    (case c_isWhole => k_is)
    (case k_isWhole => k_is)
    (case a_isNumber => k_is)
    (case l_isNumber => k_is)
    (case c_isNumber => k_is)
    (case k_isNumber => k_is)
    (case a_asTuples => k_is)
    (case l_asTuples => k_is)
    (case c_asTuples => k_is)
    (case k_asTuples => k_is)
    (case a_isWholes => k_is)
    (case l_isWholes => k_is)
    (case c_isWholes => k_is)
    (case k_isWholes => k_is)
    (case a_isNumbers => k_is)
    (case l_isNumbers => k_is)
    (case c_isNumbers => k_is)
    (case k_isNumbers => k_is)
    (case a_index => k_is)
    (case l_index => k_is)
    (case c_index => k_is)
    (case k_index => k_is)
    (case a_isName => k_is)
    (case l_isName => k_is)
    (case c_isName => k_is)
    (case k_isName => k_is)
    (case a_short => k_is)
    (case l_short => k_is)
    (case c_short => k_is)
    (case k_short => k_is)
    (case a_needDeed => k_is)
    (case l_needDeed => k_is)
    (case c_needDeed => k_is)
    (case k_needDeed => k_is)
    (case a_needRow => k_is)
    (case l_needRow => k_is)
    (case c_needRow => k_is)
    (case k_needRow => k_is)
    (case a_oneFor => k_is)
    (case l_oneFor => k_is)
    (case c_oneFor => k_is)
    (case k_oneFor => k_is)
    (case a_changes => k_is)
    (case l_changes => k_is)
    (case c_changes => k_is)
    (case k_changes => k_is)
    (case a_start => k_is)
    (case l_start => k_is)
    (case c_start => k_is)
    (case k_start => k_is)
    (case a_lets => k_is)
    (case l_lets => k_is)
    (case c_lets => k_is)
    (case k_lets => k_is)
    (case a_moved => k_is)
    (case l_moved => k_is)
    (case c_moved => k_is)
    (case k_moved => k_is)
    (case a_needSt => k_is)
    (case l_needSt => k_is)
    (case c_needSt => k_is)
    (case k_needSt => k_is)
    (case a_canDo => k_is)
    (case l_canDo => k_is)
    (case c_canDo => k_is)
    (case k_canDo => k_is)
    (case a_netDeeds => k_is)
    (case l_netDeeds => k_is)
    (case c_netDeeds => k_is)
    (case k_netDeeds => k_is)
    (case a_doneAt => k_is)
    (case l_doneAt => k_is)
    (case c_doneAt => k_is)
    (case k_doneAt => k_is)
    (case a_wkd => k_is)
    (case l_wkd => k_is)
    (case c_wkd => k_is)
    (case k_wkd => k_is)
    (case a_behind => k_is)
    (case l_behind => k_is)
    (case c_behind => k_is)
    (case k_behind => k_is)
    (case a_isRun => k_is)
    (case l_isRun => k_is)
    (case c_isRun => k_is)
    (case k_isRun => k_is)
    (case a_pen => k_is)
    (case l_pen => k_is)
    (case c_pen => k_is)
    (case k_pen => k_is)
    (case a_draw => k_is)
    (case l_draw => k_is)
    (case c_draw => k_is)
    (case k_draw => k_is)
    (case a_pick => k_is)
    (case l_pick => k_is)
    (case c_pick => k_is)
    (case k_pick => k_is)
    (case a_shuf => k_is)
    (case l_shuf => k_is)
    (case c_shuf => k_is)
    (case k_shuf => k_is)
    (case a_is => k_is)
    (case l_is => k_is)
    (case c_is => k_is)
    (case k_is => k_is)
    (case a_name => k_is)
    (case l_name => k_is)
    (case c_name => k_is)
    (case k_name => k_is)
    (case a_names => k_is)
    (case l_names => k_is)
    (case c_names => k_is)
    (case k_names => k_is)
    (case a_lstart => k_is)
    (case l_lstart => k_is)
    (case c_lstart => k_is)
    (case k_lstart => k_is)
    (case a_can => k_is)
    (case l_can => k_is)
    (case c_can => k_is)
    (case k_can => k_is)
    (case a_done => k_is)
    (case l_done => k_is)
    (case c_done => k_is)
    (case k_done => k_is)
    (case a_walked => k_is)
    (case l_walked => k_is)
    (case c_walked => k_is)
    (case k_walked => k_is)
    (case a_drawnC => k_is)
    (case l_drawnC => k_is)
    (case c_drawnC => k_is)
    (case k_drawnC => k_is)
    (case a_net => k_is)
    (case l_net => k_is)
    (case c_net => k_is)
    (case k_net => k_is)
    (case a_caught => k_is)
    (case l_caught => k_is)
    (case c_caught => k_is)
    (case k_caught => k_is)
    (case a_netRows => k_is)
    (case l_netRows => k_is)
    (case c_netRows => k_is)
    (case k_netRows => k_is)
    (case a_lrow => k_is)
    (case l_lrow => k_is)
    (case c_lrow => k_is)
    (case k_lrow => k_is)
    (case a_rr => k_is)
    (case l_rr => k_is)
    (case c_rr => k_is)
    (case k_rr => k_is)
    (case t_rr => first | kernel_rfl | with_unfolding_all rfl | decide +kernel)
    (case a_sr => k_is)
    (case l_sr => k_is)
    (case c_sr => k_is)
    (case k_sr => k_is)
    (case t_sr => first | kernel_rfl | with_unfolding_all rfl | decide +kernel)
    (case a_law => k_is)
    (case l_law => k_is)
    (case c_law => k_is)
    (case k_law => k_is)
    (case t_nd => first | kernel_rfl | with_unfolding_all rfl | decide +kernel)
    (case a_cinit => k_is)
    (case i_cinit => k_is)
    (case l_cinit => k_is)
    (case c_cinit => k_is)
    (case k_cinit => k_is)
    (case a_ninit => k_is)
    (case i_ninit => k_is)
    (case l_ninit => k_is)
    (case c_ninit => k_is)
    (case k_ninit => k_is)
    (case a_xc2 => k_is)
    (case i_xc2 => k_is)
    (case l_xc2 => k_is)
    (case c_xc2 => k_is)
    (case k_xc2 => k_is)
    (case o_c2 => first | kernel_rfl | with_unfolding_all rfl | decide +kernel)
    (case x_c2 => first | kernel_rfl | with_unfolding_all rfl | decide +kernel)
    (case s_c2 => first | kernel_rfl | with_unfolding_all rfl | decide +kernel)
    (case a_xc6 => k_is)
    (case i_xc6 => k_is)
    (case l_xc6 => k_is)
    (case c_xc6 => k_is)
    (case k_xc6 => k_is)
    (case o_c6 => first | kernel_rfl | with_unfolding_all rfl | decide +kernel)
    (case x_c6 => first | kernel_rfl | with_unfolding_all rfl | decide +kernel)
    (case s_c6 => first | kernel_rfl | with_unfolding_all rfl | decide +kernel)
    (case a_xc8 => k_is)
    (case i_xc8 => k_is)
    (case l_xc8 => k_is)
    (case c_xc8 => k_is)
    (case k_xc8 => k_is)
    (case o_c8 => first | kernel_rfl | with_unfolding_all rfl | decide +kernel)
    (case x_c8 => first | kernel_rfl | with_unfolding_all rfl | decide +kernel)
    (case s_c8 => first | kernel_rfl | with_unfolding_all rfl | decide +kernel)
    (case s_nd => first | kernel_rfl | with_unfolding_all rfl | decide +kernel)
    (case pg_C => k_is)
    (case hd_C => k_is)
    (case po_C => k_is)
    (case sa_C => k_is)
    (case mk_C => k_is)
    (case kc_C => k_is)
    (case ha_C => k_is)
    (case hm_C => k_is)
    (case n_C_first => k_is)
    (case n_C_takes => k_is)
    (case n_C_puts => k_is)
    (case pg_N => k_is)
    (case hd_N => k_is)
    (case po_N => k_is)
    (case sa_N => k_is)
    (case mk_N => k_is)
    (case kc_N => k_is)
    (case ha_N => k_is)
    (case hm_N => k_is)
    (case n_N_deeds => k_is)
    (case n_N_counters => k_is)
    (case n_N_rows => k_is)
    (case hn => k_is)
    (case htk => k_is)
    (case b_isinstance => k_is)
    (case b_len => k_is)
    (case b_int => k_is)
    (case b_bool => k_is)
    (case b_str => k_is)
    (case b_list => k_is)
    (case b_tuple => k_is)
    (case b_range => k_is)
    (case b_all => k_is)
    (case b_any => k_is)
    (case b_zip => k_is)
    (case b_enumerate => k_is)
    (case b_min => k_is)
    (case b_repr => k_is)
    (case s_L => k_is)
    (case s_S => k_is)
