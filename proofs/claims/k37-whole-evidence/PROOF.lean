import PyProof.Rows.All
import Wide.All
import OpenK.AllK
import Wide.FinOn
import HandS.ForMost
import HandS.IsInst
import HandS.Zip
import HandS.DictComp
import HandS.TupAny
import HandS.Style
import HandS.Walk
import KE.GoesEnum
import PySem.Challenge.RW_allbide_k37_whole_evidence_of_limits
set_option Elab.async false
set_option linter.all false
set_option maxRecDepth 100000
set_option maxHeartbeats 4000000
/-! data at any depth over the hand layer: what a value stands for, which slots own what they hold -/
namespace Kx
open PySem PySem.Spec PyProof.Rows L2

/-- data at any depth -/
inductive D where
  | non | bl (b : Bool) | int (i : Int) | str (x : Str) | tup (ds : List D) | lst (ds : List D) | dct (kvs : List ((Int × Int) × D))

def kk (p : Int × Int) : List Key := [.inl p.1, .inl p.2]

mutual
inductive Rp (F : Hp) : V → D → Prop
  | non : Rp F .non .non
  | bl (b : Bool) : Rp F (.bl b) (.bl b)
  | int (i : Int) : Rp F (.int i) (.int i)
  | str (x : Str) : Rp F (.str x) (.str x)
  | tup {a : Addr} {vs : List V} {ds : List D} : F a = some (.tup vs) → vs.length ≤ sizeLine → RpA F vs ds → Rp F (.ref a) (.tup ds)
  | lst {a : Addr} {vs : List V} {ds : List D} : F a = some (.lst vs) → vs.length ≤ sizeLine → RpA F vs ds → Rp F (.ref a) (.lst ds)
  | dct {a : Addr} {es : List (List Key × V)} {kvs : List ((Int × Int) × D)} : F a = some (.dT es) → es.length ≤ sizeLine → RpK F es kvs → Rp F (.ref a) (.dct kvs)
inductive RpA (F : Hp) : List V → List D → Prop
  | nil : RpA F [] []
  | cons {v : V} {d : D} {vs : List V} {ds : List D} : Rp F v d → RpA F vs ds → RpA F (v :: vs) (d :: ds)
inductive RpK (F : Hp) : List (List Key × V) → List ((Int × Int) × D) → Prop
  | nil : RpK F [] []
  | cons {p : Int × Int} {v : V} {d : D} {es : List (List Key × V)} {kvs : List ((Int × Int) × D)} : Rp F v d → RpK F es kvs → RpK F ((kk p, v) :: es) ((p, d) :: kvs)
end

def Le (F F' : Hp) : Prop := ∀ a u, F a = some u → F' a = some u
theorem Le.refl (F : Hp) : Le F F := fun _ _ h => h
theorem Le.trans {F F1 F2 : Hp} (a : Le F F1) (b : Le F1 F2) : Le F F2 := fun c u h => b c u (a c u h)
theorem Le.upd {F : Hp} {a : Addr} {o : HO} (h : F a = none) : Le F (upd F a o) := fun b u e => by
  rw [upd_ne (ne_of_none e h)]
  exact e

mutual
theorem Rp.mono {F F' : Hp} (l : Le F F') : ∀ {v : V} {d : D}, Rp F v d → Rp F' v d
  | _, _, .non => .non
  | _, _, .bl b => .bl b
  | _, _, .int i => .int i
  | _, _, .str x => .str x
  | _, _, .tup h z a => .tup (l _ _ h) z (RpA.mono l a)
  | _, _, .lst h z a => .lst (l _ _ h) z (RpA.mono l a)
  | _, _, .dct h z a => .dct (l _ _ h) z (RpK.mono l a)
theorem RpA.mono {F F' : Hp} (l : Le F F') : ∀ {vs : List V} {ds : List D}, RpA F vs ds → RpA F' vs ds
  | _, _, .nil => .nil
  | _, _, .cons h a => .cons (Rp.mono l h) (RpA.mono l a)
theorem RpK.mono {F F' : Hp} (l : Le F F') : ∀ {vs : List (List Key × V)} {ds : List ((Int × Int) × D)}, RpK F vs ds → RpK F' vs ds
  | _, _, .nil => .nil
  | _, _, .cons h a => .cons (Rp.mono l h) (RpK.mono l a)
end

theorem RpA.length {F : Hp} : ∀ {vs : List V} {ds : List D}, RpA F vs ds → vs.length = ds.length
  | _, _, .nil => rfl
  | _, _, .cons _ a => by rw [List.length_cons, List.length_cons, RpA.length a]
theorem RpA.get {F : Hp} : ∀ {vs : List V} {ds : List D} {i : Nat} {d : D}, RpA F vs ds → ds[i]? = some d → ∃ v, vs[i]? = some v ∧ Rp F v d
  | _, _, _, _, .nil, e => by simp at e
  | _, _, 0, _, .cons h a, e => by
    have e' := Option.some.inj e
    subst e'
    exact ⟨_, rfl, h⟩
  | _, _, i + 1, d, .cons h a, e => RpA.get (i := i) (d := d) a e
theorem RpA.get' {F : Hp} : ∀ {vs : List V} {ds : List D} {i : Nat} {v : V}, RpA F vs ds → vs[i]? = some v → ∃ d, ds[i]? = some d ∧ Rp F v d
  | _, _, _, _, .nil, e => by simp at e
  | _, _, 0, _, .cons h a, e => by
    have e' := Option.some.inj e
    subst e'
    exact ⟨_, rfl, h⟩
  | _, _, i + 1, d, .cons h a, e => RpA.get' (i := i) (v := d) a e
theorem RpA.append {F : Hp} : ∀ {vs ws : List V} {ds es : List D}, RpA F vs ds → RpA F ws es → RpA F (vs ++ ws) (ds ++ es)
  | _, _, _, _, .nil, b => b
  | _, _, _, _, .cons h a, b => .cons h (RpA.append a b)
theorem RpA.take {F : Hp} : ∀ {vs : List V} {ds : List D} (n : Nat), RpA F vs ds → RpA F (vs.take n) (ds.take n)
  | _, _, 0, _ => .nil
  | _, _, _ + 1, .nil => .nil
  | _, _, n + 1, .cons h a => .cons h (RpA.take n a)
theorem RpA.drop {F : Hp} : ∀ {vs : List V} {ds : List D} (n : Nat), RpA F vs ds → RpA F (vs.drop n) (ds.drop n)
  | _, _, 0, a => a
  | _, _, _ + 1, .nil => .nil
  | _, _, n + 1, .cons h a => RpA.drop n a
theorem RpA.reverse {F : Hp} : ∀ {vs : List V} {ds : List D}, RpA F vs ds → RpA F vs.reverse ds.reverse
  | _, _, .nil => .nil
  | _, _, .cons h a => by
    rw [List.reverse_cons, List.reverse_cons]
    exact RpA.append (RpA.reverse a) (.cons h .nil)
theorem RpK.length {F : Hp} : ∀ {vs : List (List Key × V)} {ds : List ((Int × Int) × D)}, RpK F vs ds → vs.length = ds.length
  | _, _, .nil => rfl
  | _, _, .cons _ a => by rw [List.length_cons, List.length_cons, RpK.length a]
theorem RpK.get {F : Hp} : ∀ {vs : List (List Key × V)} {ds : List ((Int × Int) × D)} {i : Nat} {p : Int × Int} {d : D}, RpK F vs ds → ds[i]? = some (p, d) → ∃ v, vs[i]? = some (kk p, v) ∧ Rp F v d
  | _, _, _, _, _, .nil, e => by simp at e
  | _, _, 0, _, _, .cons h a, e => by
    have e' := Option.some.inj e
    cases e'
    exact ⟨_, rfl, h⟩
  | _, _, i + 1, p, d, .cons h a, e => RpK.get (i := i) (p := p) (d := d) a e

/-! ### the script's stream, slots, states -/
structure Strm where
  scr : List Int
  cell : Int
  k : Int
/-- what a slot is known to hold: data that stays; a list, a dict that nobody else holds; the stream -/
inductive Sl where
  | fz (d : D) | ol (ds : List D) | od (kvs : List ((Int × Int) × D)) | st (S : Strm)
abbrev Rho := List (Option Sl)
structure Sub (F H : Hp) : Prop where
  rd : ∀ a u, F a = some u → Rd H a u
  tp : ∀ a xs, F a = some (.tup xs) → H a = some (.tup xs)
def RpS (st : Option Addr) (F H : Hp) (v : V) : Sl → Prop
  | .fz d => Rp F v d
  | .ol ds => ∃ a vs, v = .ref a ∧ F a = none ∧ H a = some (.lst vs) ∧ vs.length ≤ sizeLine ∧ RpA F vs ds
  | .od kvs => ∃ a es, v = .ref a ∧ F a = none ∧ H a = some (.dT es) ∧ es.length ≤ sizeLine ∧ RpK F es kvs
  | .st S => ∃ a b, st = some a ∧ v = .ref a ∧ H a = some (.lst [.ref b, .int S.cell, .int S.k]) ∧ Rp F (.ref b) (.lst (S.scr.map D.int))
def isO : Sl → Bool
  | .ol _ => true
  | .od _ => true
  | _ => false
structure Rs (st : Option Addr) (Z : Addr → Prop) (B F : Hp) (ρ : Rho) (σ : L2.St) (H : Hp) : Prop where
  len : ρ.length = σ.length
  bh : ∀ a o, B a = some o → H a = some o
  sub : Sub F H
  zf : ∀ a, Z a → F a = none
  zb : ∀ a, Z a → ∃ o, B a = some o
  slot : ∀ (i : Nat) (s : Sl), ρ[i]? = some (some s) → ∃ v, σ[i]? = some (some v) ∧ RpS st F H v s
  own : ∀ (i : Nat) (s : Sl) (a : Addr), ρ[i]? = some (some s) → isO s = true → σ[i]? = some (some (.ref a)) → B a = none ∧ st ≠ some a
  sep : ∀ (i j : Nat) (s t : Sl) (a : Addr), ρ[i]? = some (some s) → ρ[j]? = some (some t) → isO s = true → isO t = true → σ[i]? = some (some (.ref a)) → σ[j]? = some (some (.ref a)) → i = j
  stb : ∀ a, st = some a → B a = none ∧ F a = none ∧ ∃ o, H a = some o
  znt : ∀ a, Z a → ∀ xs, B a ≠ some (.tup xs)
  snt : ∀ a, st = some a → ∀ xs, H a ≠ some (.tup xs)

section
variable {st : Option Addr} {Z Z' : Addr → Prop} {B B' F F' H H' : Hp} {ρ ρ' : Rho} {σ : L2.St}
theorem Sub.none (s : Sub F H) {a : Addr} (h : H a = none) : F a = none := by
  cases e : F a with
  | none => rfl
  | some u =>
    rcases s.rd a u e with q | ⟨o, q⟩ <;> rw [h] at q <;> cases q
theorem Rs.bn (r : Rs st Z B F ρ σ H) {a : Addr} (h : H a = none) : B a = none := by
  cases e : B a with
  | none => rfl
  | some u =>
    have q := r.bh a u e
    rw [h] at q
    cases q
/-- less is to be kept -/
theorem Rs.less (r : Rs st Z B F ρ σ H) (hb : ∀ a o, B' a = some o → B a = some o) (hz : ∀ a, Z' a → Z a) (hzb : ∀ a, Z' a → ∃ o, B' a = some o) : Rs st Z' B' F ρ σ H where
  len := r.len
  bh := fun a o e => r.bh a o (hb a o e)
  sub := r.sub
  zf := fun a z => r.zf a (hz a z)
  zb := hzb
  slot := r.slot
  own := fun i s a h1 h2 h3 => by
    obtain ⟨q1, q2⟩ := r.own i s a h1 h2 h3
    refine ⟨?_, q2⟩
    cases e : B' a with
    | none => rfl
    | some u =>
      have q := hb a u e
      rw [q1] at q
      cases q
  sep := r.sep
  stb := fun a e => by
    obtain ⟨q1, q2⟩ := r.stb a e
    refine ⟨?_, q2⟩
    cases e : B' a with
    | none => rfl
    | some u =>
      have q := hb a u e
      rw [q1] at q
      cases q
  znt := fun a z xs e => r.znt a (hz a z) xs (hb a _ e)
  snt := r.snt
theorem RpS.keep {v : V} {s : Sl} (h : RpS st F H v s) (l : Le F F') (hF : ∀ a, v = .ref a → isO s = true → F' a = none) (hH : ∀ a, v = .ref a → isO s = true → H' a = H a) (hS : ∀ S a, s = .st S → v = .ref a → st = some a → H' a = H a) : RpS st F' H' v s := by
  cases s with
  | fz d => exact Rp.mono l h
  | ol ds =>
    obtain ⟨a, vs, e, h1, h2, h3, h4⟩ := h
    exact ⟨a, vs, e, hF a e rfl, by rw [hH a e rfl]; exact h2, h3, RpA.mono l h4⟩
  | od ds =>
    obtain ⟨a, vs, e, h1, h2, h3, h4⟩ := h
    exact ⟨a, vs, e, hF a e rfl, by rw [hH a e rfl]; exact h2, h3, RpK.mono l h4⟩
  | st S =>
    obtain ⟨a, b, h0, e, h1, h2⟩ := h
    exact ⟨a, b, h0, e, by rw [hS S a rfl e h0]; exact h1, Rp.mono l h2⟩
/-- an owned slot: where it stands -/
theorem RpS.at {v : V} {s : Sl} (h : RpS st F H v s) (o : isO s = true) : ∃ a u, v = .ref a ∧ F a = none ∧ H a = some u ∧ Mut (some u) := by
  cases s with
  | fz d => cases o
  | ol ds =>
    obtain ⟨a, vs, e, h1, h2, _⟩ := h
    exact ⟨a, _, e, h1, h2, trivial⟩
  | od ds =>
    obtain ⟨a, vs, e, h1, h2, _⟩ := h
    exact ⟨a, _, e, h1, h2, trivial⟩
  | st S => cases o
/-- a new object that stays -/
theorem Rs.new (r : Rs st Z B F ρ σ H) {p : Addr} {o : HO} (h : H p = none) : Rs st Z B (upd F p o) ρ σ (upd H p o) := by
  have hf := r.sub.none h
  have hb := r.bn h
  refine ⟨r.len, fun a u e => ?_, ⟨fun a u e => ?_, fun a u e => ?_⟩, fun a z => ?_, r.zb, fun i s e => ?_, r.own, r.sep, fun a e => ?_, r.znt, fun a e xs z => ?_⟩
  · have q := r.bh a u e
    rw [upd_ne (ne_of_none q h)]
    exact q
  · by_cases hp : a = p
    · subst hp
      rw [upd_same] at e
      left
      rw [upd_same]
      exact e
    · rw [upd_ne hp] at e
      unfold Rd
      rw [upd_ne hp]
      exact r.sub.rd a u e
  · by_cases hp : a = p
    · subst hp
      rw [upd_same] at e
      rw [upd_same]
      exact e
    · rw [upd_ne hp] at e
      rw [upd_ne hp]
      exact r.sub.tp a u e
  · have q := r.zf a z
    obtain ⟨u, q2⟩ := r.zb a z
    rw [upd_ne (ne_of_none (r.bh a u q2) h)]
    exact q
  · obtain ⟨v, e1, h1⟩ := r.slot i s e
    refine ⟨v, e1, h1.keep (Le.upd hf) (fun a e2 e3 => ?_) (fun a e2 e3 => ?_) (fun S a _ e2 e3 => ?_)⟩
    · obtain ⟨b, u, e4, e5, e6, _⟩ := h1.at e3
      have e7 : a = b := by
        rw [e2] at e4
        exact V.ref.inj e4
      subst e7
      rw [upd_ne (ne_of_none e6 h)]
      exact e5
    · obtain ⟨b, u, e4, e5, e6, _⟩ := h1.at e3
      have e7 : a = b := by
        rw [e2] at e4
        exact V.ref.inj e4
      subst e7
      rw [upd_ne (ne_of_none e6 h)]
    · obtain ⟨_, _, u, e6⟩ := r.stb a e3
      rw [upd_ne (ne_of_none e6 h)]
  · obtain ⟨q1, q2, u, q3⟩ := r.stb a e
    have ne := ne_of_none q3 h
    exact ⟨q1, by rw [upd_ne ne]; exact q2, u, by rw [upd_ne ne]; exact q3⟩
  · obtain ⟨q1, q2, u, q3⟩ := r.stb a e
    rw [upd_ne (ne_of_none q3 h)] at z
    exact r.snt a e xs z
theorem Rs.leNew (r : Rs st Z B F ρ σ H) {p : Addr} {o : HO} (h : H p = none) : Le F (upd F p o) := Le.upd (r.sub.none h)
end
end Kx
set_option Elab.async false
set_option linter.all false
set_option maxRecDepth 100000
set_option maxHeartbeats 4000000
/-! judgements: what an expression, a test, a statement does to slots, by plain functions -/
namespace Kx
open PySem PySem.Spec PyProof.Rows L2

/-! ### the weakest readings -/
def WE (X : Cx) (e : Expr) : TE := fun σ H Q => ∃ t, PE X e t ∧ t σ H Q
theorem pe_w {X : Cx} {e : Expr} : PE X e (WE X e) := ⟨fun pins s σ H Q I ⟨_, h, q⟩ => h.run pins s σ H Q I q⟩
def WT (X : Cx) (e : Expr) : TT := fun σ H Q => ∃ t, PT X e t ∧ t σ H Q
theorem pt_w {X : Cx} {e : Expr} : PT X e (WT X e) := ⟨fun pins s σ H Q I ⟨_, h, q⟩ => h.run pins s σ H Q I q⟩
def WW (X : Cx) (e : Expr) : TT := fun σ H Q => ∃ t, PW X e t ∧ t σ H Q
theorem pw_w {X : Cx} {e : Expr} : PW X e (WW X e) := ⟨fun wh pins s σ H Q I ⟨_, h, q⟩ => h.run wh pins s σ H Q I q⟩
def WA (X : Cx) (es : List Expr) : TA := fun σ H Q => ∃ t, PA X es t ∧ t σ H Q
theorem pa_w {X : Cx} {es : List Expr} : PA X es (WA X es) := ⟨fun pos pins s σ H Q I ⟨_, h, q⟩ => h.run pos pins s σ H Q I q⟩
def WI (X : Cx) (tg iter : Expr) : TI := fun σ H R => ∃ t, PI X tg iter t ∧ t σ H R
theorem pi_w {X : Cx} {tg iter : Expr} : PI X tg iter (WI X tg iter) := ⟨fun pins s σ H R I ⟨_, h, q⟩ => h.run pins s σ H R I q⟩
def WG (X : Cx) (tg : Expr) : TG := fun v σ H Q => ∃ t, PG X tg t ∧ t v σ H Q
theorem pg_w {X : Cx} {tg : Expr} : PG X tg (WG X tg) := ⟨fun pins s σ H v u Q I r ⟨_, h, q⟩ => h.run pins s σ H v u Q I r q⟩
def WGs (X : Cx) (ts : List Expr) : TGs := fun vs σ H Q => ∃ t, PGs X ts t ∧ t vs σ H Q
theorem pgs_w {X : Cx} {ts : List Expr} : PGs X ts (WGs X ts) := ⟨fun pins s σ H vs us Q I r ⟨_, h, q⟩ => h.run pins s σ H vs us Q I r q⟩
def WS (X : Cx) (s : Stmt) : TS := fun E σ H => ∃ t, PS X s t ∧ t E σ H
theorem ps_w {X : Cx} {s : Stmt} : PS X s (WS X s) := ⟨fun pins s σ H E I ⟨_, h, q⟩ => h.run pins s σ H E I q⟩
def WSs (X : Cx) (ss : List Stmt) : TS := fun E σ H => ∃ t, PSs X ss t ∧ t E σ H
theorem pss_w {X : Cx} {ss : List Stmt} : PSs X ss (WSs X ss) := ⟨fun pins s σ H E I ⟨_, h, q⟩ => h.run pins s σ H E I q⟩

/-! ### judgements -/
abbrev Fe := Rho → Option (D × Rho)
abbrev Fa := Rho → Option (List D × Rho)
abbrev Ft := Rho → Option (Bool × Rho)
inductive Res where
  | nx (ρ : Rho) | rt (d : D) (ρ : Rho)
abbrev Fs := Rho → Option Res
abbrev Fg := D → Rho → Option Rho
abbrev Fgs := List D → Rho → Option Rho

section
variable (X : Cx) (st : Option Addr)
def DE (e : Expr) (f : Fe) : Prop := ∀ Z B F ρ σ H d ρ' (Q : VK), Rs st Z B F ρ σ H → f ρ = some (d, ρ') → (∀ F' H' v, Le F F' → Rs st Z B F' ρ' σ H' → Rp F' v d → Q v H') → WE X e σ H Q
def DA (es : List Expr) (f : Fa) : Prop := ∀ Z B F ρ σ H ds ρ' (Q : List V → Hp → Prop), Rs st Z B F ρ σ H → f ρ = some (ds, ρ') → (∀ F' H' vs, Le F F' → Rs st Z B F' ρ' σ H' → RpA F' vs ds → Q vs H') → WA X es σ H Q
def DT (e : Expr) (f : Ft) : Prop := ∀ Z B F ρ σ H b ρ' (Q : Bool → Hp → Prop), Rs st Z B F ρ σ H → f ρ = some (b, ρ') → (∀ F' H', Le F F' → Rs st Z B F' ρ' σ H' → Q b H') → WT X e σ H Q
def DW (e : Expr) (f : Ft) : Prop := ∀ Z B F ρ σ H b ρ' (Q : Bool → Hp → Prop), Rs st Z B F ρ σ H → f ρ = some (b, ρ') → (∀ F' H', Le F F' → Rs st Z B F' ρ' σ H' → Q b H') → WW X e σ H Q
def DG (tg : Expr) (g : Fg) : Prop := ∀ Z B F ρ σ H v d ρ' (Q : L2.St → Hp → Prop), Rs st Z B F ρ σ H → Rp F v d → g d ρ = some ρ' → (∀ F' σ' H', Le F F' → Rs st Z B F' ρ' σ' H' → Q σ' H') → WG X tg v σ H Q
def DGs (ts : List Expr) (g : Fgs) : Prop := ∀ Z B F ρ σ H vs ds ρ' (Q : L2.St → Hp → Prop), Rs st Z B F ρ σ H → RpA F vs ds → g ds ρ = some ρ' → (∀ F' σ' H', Le F F' → Rs st Z B F' ρ' σ' H' → Q σ' H') → WGs X ts vs σ H Q
def DS (s : Stmt) (f : Fs) : Prop := ∀ Z B F ρ σ H r (E : Ends), Rs st Z B F ρ σ H → f ρ = some r →
  (∀ ρ', r = .nx ρ' → ∀ F' σ' H', Le F F' → Rs st Z B F' ρ' σ' H' → E.nx σ' H') →
  (∀ d ρ', r = .rt d ρ' → ∀ F' σ' H' v, Le F F' → Rs st Z B F' ρ' σ' H' → Rp F' v d → E.rt v H') → WS X s E σ H
def DSs (ss : List Stmt) (f : Fs) : Prop := ∀ Z B F ρ σ H r (E : Ends), Rs st Z B F ρ σ H → f ρ = some r →
  (∀ ρ', r = .nx ρ' → ∀ F' σ' H', Le F F' → Rs st Z B F' ρ' σ' H' → E.nx σ' H') →
  (∀ d ρ', r = .rt d ρ' → ∀ F' σ' H' v, Le F F' → Rs st Z B F' ρ' σ' H' → Rp F' v d → E.rt v H') → WSs X ss E σ H
end

section
variable {X : Cx} {st : Option Addr} {e a b c : Expr} {es : List Expr} {pos : Pos}

/-! ### names, constants -/
def freeze (i : Nat) (ρ : Rho) : Option (D × Rho) :=
  match ρ[i]? with
  | some (some (.fz d)) => some (d, ρ)
  | some (some (.ol ds)) => some (.lst ds, ρ.set i (some (.fz (.lst ds))))
  | some (some (.od kvs)) => some (.dct kvs, ρ.set i (some (.fz (.dct kvs))))
  | _ => none
def eName (i : Nat) : Fe := freeze i
def eC (d : D) : Fe := fun ρ => some (d, ρ)

theorem get_set {α : Type} {l : List α} {i j : Nat} {x y : α} (h : (l.set i x)[j]? = some y) : (j = i ∧ x = y ∧ i < l.length) ∨ (j ≠ i ∧ l[j]? = some y) := by
  by_cases e : i = j
  · subst e
    by_cases hl : i < l.length
    · rw [List.getElem?_set_self hl] at h
      exact .inl ⟨rfl, Option.some.inj h, hl⟩
    · rw [List.getElem?_eq_none (by simpa using hl)] at h
      cases h
  · rw [List.getElem?_set_ne e] at h
    exact .inr ⟨fun z => e z.symm, h⟩

/-- an owned object is held from now on as data -/
theorem Rs.freeze {Z : Addr → Prop} {B F H : Hp} {ρ : Rho} {σ : L2.St} (r : Rs st Z B F ρ σ H) {i : Nat} {s : Sl} {a : Addr} {u : HO} {d : D} (h1 : ρ[i]? = some (some s)) (h2 : isO s = true) (h3 : σ[i]? = some (some (.ref a))) (h4 : H a = some u) (h5 : F a = none) (nt : ∀ xs, u ≠ .tup xs)
    (h6 : Rp (upd F a u) (.ref a) d) : Rs st Z B (upd F a u) (ρ.set i (some (.fz d))) σ H where
  len := by rw [List.length_set]; exact r.len
  bh := r.bh
  sub := ⟨fun b o e => by
    by_cases hb : b = a
    · subst hb
      rw [upd_same] at e
      cases e
      exact .inl h4
    · rw [upd_ne hb] at e
      exact r.sub.rd b o e, fun b xs e => by
    by_cases hb : b = a
    · subst hb
      rw [upd_same] at e
      exact absurd (Option.some.inj e) (nt xs)
    · rw [upd_ne hb] at e
      exact r.sub.tp b xs e⟩
  zf := fun b z => by
    obtain ⟨o, q⟩ := r.zb b z
    have q2 := (r.own i s a h1 h2 h3).1
    rw [upd_ne (ne_of_none q q2)]
    exact r.zf b z
  zb := r.zb
  slot := fun j t e => by
    rcases get_set e with ⟨rfl, e2, _⟩ | ⟨ne, e2⟩
    · cases e2
      exact ⟨_, h3, h6⟩
    · obtain ⟨v, e3, q⟩ := r.slot j t e2
      refine ⟨v, e3, q.keep (Le.upd h5) (fun b e4 e5 => ?_) (fun _ _ _ => rfl) fun _ _ _ _ _ => rfl⟩
      subst e4
      have nb : b ≠ a := fun z => by
        subst z
        exact ne (r.sep j i t s b e2 h1 e5 h2 e3 h3)
      obtain ⟨b2, o, e6, e7, _⟩ := q.at e5
      cases e6
      rw [upd_ne nb]
      exact e7
  own := fun j t b e e2 e3 => by
    rcases get_set e with ⟨rfl, e4, _⟩ | ⟨ne, e4⟩
    · cases e4
      cases e2
    · exact r.own j t b e4 e2 e3
  sep := fun j k t t' b e e' o o' q q' => by
    rcases get_set e with ⟨rfl, e4, _⟩ | ⟨ne, e4⟩
    · cases e4
      cases o
    · rcases get_set e' with ⟨rfl, e5, _⟩ | ⟨ne', e5⟩
      · cases e5
        cases o'
      · exact r.sep j k t t' b e4 e5 o o' q q'
  stb := fun b e => by
    obtain ⟨q1, q2, q3⟩ := r.stb b e
    have q4 := (r.own i s a h1 h2 h3).2
    refine ⟨q1, ?_, q3⟩
    rw [upd_ne (fun z => q4 (by rw [e, z]))]
    exact q2
  znt := r.znt
  snt := r.snt

theorem de_name (i : Nat) {x : Str} (hN : X.N[i]? = some x := by rfl) (hv : Vis X.env.scope x := by first | exact Or.inl rfl | exact Or.inr (Or.inl rfl) | exact Or.inr (Or.inr rfl)) (hd : (x == ("__debug__" : Str)) = false := by decide)
    (hcd : (x == ("__classdict__" : Str)) = false := by decide) : DE X st (.Name x pos) (eName i) := by
  intro Z B F ρ σ H d ρ' Q r h q
  refine ⟨_, pe_var (i := i) hN hv hd hcd, ?_⟩
  have h' : Kx.freeze i ρ = some (d, ρ') := h
  unfold Kx.freeze at h'
  split at h'
  · rename_i d' e
    cases h'
    obtain ⟨v, e1, e2⟩ := r.slot i _ e
    exact ⟨v, e1, q F H v (Le.refl F) r e2⟩
  · rename_i ds e
    cases h'
    obtain ⟨v, e1, b, vs, e2, e3, e4, e5, e6⟩ := r.slot i _ e
    subst e2
    have h6 : Rp (upd F b (.lst vs)) (.ref b) (.lst ds) := .lst upd_same e5 (RpA.mono (Le.upd e3) e6)
    exact ⟨_, e1, q _ H _ (Le.upd e3) (r.freeze e rfl e1 e4 e3 (fun xs z => nomatch z) h6) h6⟩
  · rename_i ds e
    cases h'
    obtain ⟨v, e1, b, vs, e2, e3, e4, e5, e6⟩ := r.slot i _ e
    subst e2
    have h6 : Rp (upd F b (.dT vs)) (.ref b) (.dct ds) := .dct upd_same e5 (RpK.mono (Le.upd e3) e6)
    exact ⟨_, e1, q _ H _ (Le.upd e3) (r.freeze e rfl e1 e4 e3 (fun xs z => nomatch z) h6) h6⟩
  · cases h'
theorem de_int {i : Int} {j : Nat} : DE X st (.Constant (.int i) j pos) (eC (.int i)) := by
  intro Z B F ρ σ H d ρ' Q r h q
  cases h
  exact ⟨_, pe_int, q F H _ (Le.refl F) r (.int i)⟩
theorem de_bl {i : Bool} {j : Nat} : DE X st (.Constant (.bool i) j pos) (eC (.bl i)) := by
  intro Z B F ρ σ H d ρ' Q r h q
  cases h
  exact ⟨_, pe_bl, q F H _ (Le.refl F) r (.bl i)⟩
theorem de_non {j : Nat} : DE X st (.Constant .none j pos) (eC .non) := by
  intro Z B F ρ σ H d ρ' Q r h q
  cases h
  exact ⟨_, pe_non, q F H _ (Le.refl F) r .non⟩
theorem de_str {x : Str} {j : Nat} : DE X st (.Constant (.str x) j pos) (eC (.str x)) := by
  intro Z B F ρ σ H d ρ' Q r h q
  cases h
  exact ⟨_, pe_str, q F H _ (Le.refl F) r (.str x)⟩
theorem de_globI {x : Str} {i : Int} {t : Tok} (hg : Gl X x) (hm : X.mg x = some (.int i t)) (hd : (x == ("__debug__" : Str)) = false := by decide) : DE X st (.Name x pos) (eC (.int i)) := by
  intro Z B F ρ σ H d ρ' Q r h q
  cases h
  exact ⟨_, pe_glob (v := .int i) hg hm ⟨t, rfl⟩ hd, q F H _ (Le.refl F) r (.int i)⟩

/-! ### values by values -/
/-- a two-place operation on values does what g says of data -/
def Op2 (st : Option Addr) (K : PySem.W.Frag) (r : R2) (g : D → D → Option D) : Prop :=
  ∀ Z B F ρ σ H x y dx dy d (Q : VK), Rs st Z B F ρ σ H → Rp F x dx → Rp F y dy → g dx dy = some d → (∀ F' H' v, Le F F' → Rs st Z B F' ρ σ H' → Rp F' v d → Q v H') → r x y H Q
def Op1 (st : Option Addr) (K : PySem.W.Frag) (r : V → Hp → VK → Prop) (g : D → Option D) : Prop :=
  ∀ Z B F ρ σ H x dx d (Q : VK), Rs st Z B F ρ σ H → Rp F x dx → g dx = some d → (∀ F' H' v, Le F F' → Rs st Z B F' ρ σ H' → Rp F' v d → Q v H') → r x H Q
def OpN (st : Option Addr) (K : PySem.W.Frag) (r : List V → Hp → VK → Prop) (g : List D → Option D) : Prop :=
  ∀ Z B F ρ σ H xs dxs d (Q : VK), Rs st Z B F ρ σ H → RpA F xs dxs → g dxs = some d → (∀ F' H' v, Le F F' → Rs st Z B F' ρ σ H' → Rp F' v d → Q v H') → r xs H Q

def e2 (g : D → D → Option D) (fa fb : Fe) : Fe := fun ρ => match fa ρ with
  | some (x, ρ1) => match fb ρ1 with
    | some (y, ρ2) => match g x y with
      | some d => some (d, ρ2)
      | none => none
    | none => none
  | none => none
def e1 (g : D → Option D) (fa : Fe) : Fe := fun ρ => match fa ρ with
  | some (x, ρ1) => match g x with
    | some d => some (d, ρ1)
    | none => none
  | none => none
def eN (g : List D → Option D) (fa : Fa) : Fe := fun ρ => match fa ρ with
  | some (x, ρ1) => match g x with
    | some d => some (d, ρ1)
    | none => none
  | none => none
theorem e2_inv {g : D → D → Option D} {fa fb : Fe} {ρ ρ' : Rho} {d : D} (h : e2 g fa fb ρ = some (d, ρ')) : ∃ x ρ1 y, fa ρ = some (x, ρ1) ∧ fb ρ1 = some (y, ρ') ∧ g x y = some d := by
  unfold e2 at h
  split at h
  · rename_i x ρ1 ea
    split at h
    · rename_i y ρ2 eb
      split at h
      · rename_i d' eg
        cases h
        exact ⟨x, ρ1, y, ea, eb, eg⟩
      · cases h
    · cases h
  · cases h
theorem e1_inv {g : D → Option D} {fa : Fe} {ρ ρ' : Rho} {d : D} (h : e1 g fa ρ = some (d, ρ')) : ∃ x, fa ρ = some (x, ρ') ∧ g x = some d := by
  unfold e1 at h
  split at h
  · rename_i x ρ1 ea
    split at h
    · rename_i d' eg
      cases h
      exact ⟨x, ea, eg⟩
    · cases h
  · cases h
theorem eN_inv {g : List D → Option D} {fa : Fa} {ρ ρ' : Rho} {d : D} (h : eN g fa ρ = some (d, ρ')) : ∃ x, fa ρ = some (x, ρ') ∧ g x = some d := by
  unfold eN at h
  split at h
  · rename_i x ρ1 ea
    split at h
    · rename_i d' eg
      cases h
      exact ⟨x, ea, eg⟩
    · cases h
  · cases h
section
variable {fa fb fc : Fe} {g g' : D → D → Option D}
/-- two expressions, one behind the other -/
theorem two_of (ha : DE X st a fa) (hb : DE X st b fb) {Z : Addr → Prop} {B F H : Hp} {ρ ρ1 ρ2 : Rho} {σ : L2.St} {x y : D} {R : V → V → Hp → Prop} (r : Rs st Z B F ρ σ H) (h1 : fa ρ = some (x, ρ1)) (h2 : fb ρ1 = some (y, ρ2))
    (q : ∀ F' H' u v, Le F F' → Rs st Z B F' ρ2 σ H' → Rp F' u x → Rp F' v y → R u v H') : WE X a σ H fun u H1 => WE X b σ H1 fun v H2 => R u v H2 := by
  refine ha _ _ _ _ _ _ _ _ _ r h1 fun F1 H1 u l1 r1 p1 => ?_
  exact hb _ _ _ _ _ _ _ _ _ r1 h2 fun F2 H2 v l2 r2 p2 => q F2 H2 u v (l1.trans l2) r2 (Rp.mono l2 p1) p2
theorem de_bin {op : Operator} {r : R2} (ho : OpR X (binaryOp op) r) (hg : Op2 st X.K r g) (ha : DE X st a fa) (hb : DE X st b fb) : DE X st (.BinOp a op b pos) (e2 g fa fb) := by
  intro Z B F ρ σ H d ρ' Q r h q
  obtain ⟨x, ρ1, y, h1, h2, h3⟩ := e2_inv h
  refine ⟨_, pe_op ho pe_w pe_w, ?_⟩
  refine two_of ha hb r h1 h2 fun F1 H1 u v l1 r1 p1 p2 => ?_
  exact hg _ _ _ _ _ _ _ _ _ _ _ _ r1 p1 p2 h3 fun F2 H2 w l2 r2 p3 => q F2 H2 w (l1.trans l2) r2 p3
theorem de_cmp {op : CmpOp} {r : R2} (ho : OpR X (compareOp op) r) (hg : Op2 st X.K r g) (ha : DE X st a fa) (hb : DE X st b fb) (hm : behindInMarks op b = false) : DE X st (.Compare a [op] [b] pos) (e2 g fa fb) := by
  intro Z B F ρ σ H d ρ' Q r h q
  obtain ⟨x, ρ1, y, h1, h2, h3⟩ := e2_inv h
  refine ⟨_, pe_cmpR ho pe_w pe_w hm, ?_⟩
  refine two_of ha hb r h1 h2 fun F1 H1 u v l1 r1 p1 p2 => ?_
  exact hg _ _ _ _ _ _ _ _ _ _ _ _ r1 p1 p2 h3 fun F2 H2 w l2 r2 p3 => q F2 H2 w (l1.trans l2) r2 p3
theorem de_un {op : UnaryOp} {r : V → Hp → VK → Prop} {g : D → Option D} (ho : UnR X (unaryOp op) r) (hg : Op1 st X.K r g) (ha : DE X st a fa) : DE X st (.UnaryOp op a pos) (e1 g fa) := by
  intro Z B F ρ σ H d ρ' Q r h q
  obtain ⟨x, h1, h3⟩ := e1_inv h
  refine ⟨_, pe_un ho pe_w, ?_⟩
  refine ha _ _ _ _ _ _ _ _ _ r h1 fun F1 H1 u l1 r1 p1 => ?_
  exact hg _ _ _ _ _ _ _ _ _ _ r1 p1 h3 fun F2 H2 w l2 r2 p3 => q F2 H2 w (l1.trans l2) r2 p3
/-- a < b < c -/
def eChain (g g' : D → D → Option D) (fa fb fc : Fe) : Fe := fun ρ => match fa ρ with
  | some (x, ρ1) => match fb ρ1 with
    | some (y, ρ2) => match g x y with
      | some (.bl true) => match fc ρ2 with
        | some (z, ρ3) => match g' y z with
          | some d => some (d, ρ3)
          | none => none
        | none => none
      | some (.bl false) => some (.bl false, ρ2)
      | _ => none
    | none => none
  | none => none
theorem de_chain {op op' : CmpOp} {r r' : R2} (ho : OpR X (compareOp op) r) (ho' : OpR X (compareOp op') r') (hg : Op2 st X.K r g) (hg' : Op2 st X.K r' g') (ha : DE X st a fa) (hb : DE X st b fb) (hc : DE X st c fc)
    (hm : lastMarks [op, op'] [b, c] = false := by with_unfolding_all rfl) : DE X st (.Compare a [op, op'] [b, c] pos) (eChain g g' fa fb fc) := by
  intro Z B F ρ σ H d ρ' Q r h q
  refine ⟨_, pe_chain ho ho' pe_w pe_w pe_w hm, ?_⟩
  unfold eChain at h
  split at h
  · rename_i x ρ1 h1
    split at h
    · rename_i y ρ2 h2
      refine two_of ha hb r h1 h2 fun F1 H1 u v l1 r1 p1 p2 => ?_
      split at h
      · rename_i h3
        split at h
        · rename_i z ρ3 h4
          split at h
          · rename_i d' h5
            cases h
            refine hg _ _ _ _ _ _ _ _ _ _ _ _ r1 p1 p2 h3 fun F2 H2 w l2 r2 p3 => ?_
            cases p3
            refine ⟨true, rfl, ?_⟩
            rw [if_pos rfl]
            refine hc _ _ _ _ _ _ _ _ _ r2 h4 fun F3 H3 w3 l3 r3 p4 => ?_
            exact hg' _ _ _ _ _ _ _ _ _ _ _ _ r3 (Rp.mono (l2.trans l3) p2) p4 h5 fun F4 H4 w4 l4 r4 p5 => q F4 H4 w4 (((l1.trans l2).trans l3).trans l4) r4 p5
          · cases h
        · cases h
      · rename_i h3
        cases h
        refine hg _ _ _ _ _ _ _ _ _ _ _ _ r1 p1 p2 h3 fun F2 H2 w l2 r2 p3 => ?_
        cases p3
        refine ⟨false, rfl, ?_⟩
        rw [if_neg Bool.false_ne_true]
        exact q F2 H2 _ (l1.trans l2) r2 (.bl false)
      · cases h
    · cases h
  · cases h
end

/-! ### and, or, not as values; a if t else b -/
def eAnd (fa fb : Fe) : Fe := fun ρ => match fa ρ with
  | some (.bl true, ρ1) => fb ρ1
  | some (.bl false, ρ1) => some (.bl false, ρ1)
  | _ => none
def eOr (fa fb : Fe) : Fe := fun ρ => match fa ρ with
  | some (.bl true, ρ1) => some (.bl true, ρ1)
  | some (.bl false, ρ1) => fb ρ1
  | _ => none
def gNot : D → Option D
  | .bl b => some (.bl !b)
  | _ => none
section
variable {fa fb : Fe} {rest : List Expr}
theorem de_one {op : BoolOp} (ha : DE X st a fa) : DE X st (.BoolOp op [a] pos) fa := by
  intro Z B F ρ σ H d ρ' Q r h q
  exact ⟨_, pe_one pe_w, ha _ _ _ _ _ _ _ _ _ r h q⟩
theorem de_and (ha : DE X st a fa) (hb : DE X st (.BoolOp .And (b :: rest) pos) fb) : DE X st (.BoolOp .And (a :: b :: rest) pos) (eAnd fa fb) := by
  intro Z B F ρ σ H d ρ' Q r h q
  refine ⟨_, pe_and pe_w pe_w, ?_⟩
  unfold eAnd at h
  split at h
  · rename_i ρ1 h1
    refine ha _ _ _ _ _ _ _ _ _ r h1 fun F1 H1 u l1 r1 p1 => ?_
    cases p1
    refine ⟨true, rfl, ?_⟩
    rw [if_pos rfl]
    exact hb _ _ _ _ _ _ _ _ _ r1 h fun F2 H2 w l2 r2 p2 => q F2 H2 w (l1.trans l2) r2 p2
  · rename_i ρ1 h1
    cases h
    refine ha _ _ _ _ _ _ _ _ _ r h1 fun F1 H1 u l1 r1 p1 => ?_
    cases p1
    refine ⟨false, rfl, ?_⟩
    rw [if_neg Bool.false_ne_true]
    exact q F1 H1 _ l1 r1 (.bl false)
  · cases h
theorem de_or (ha : DE X st a fa) (hb : DE X st (.BoolOp .Or (b :: rest) pos) fb) : DE X st (.BoolOp .Or (a :: b :: rest) pos) (eOr fa fb) := by
  intro Z B F ρ σ H d ρ' Q r h q
  refine ⟨_, pe_or pe_w pe_w, ?_⟩
  unfold eOr at h
  split at h
  · rename_i ρ1 h1
    cases h
    refine ha _ _ _ _ _ _ _ _ _ r h1 fun F1 H1 u l1 r1 p1 => ?_
    cases p1
    refine ⟨true, rfl, ?_⟩
    rw [if_pos rfl]
    exact q F1 H1 _ l1 r1 (.bl true)
  · rename_i ρ1 h1
    refine ha _ _ _ _ _ _ _ _ _ r h1 fun F1 H1 u l1 r1 p1 => ?_
    cases p1
    refine ⟨false, rfl, ?_⟩
    rw [if_neg Bool.false_ne_true]
    exact hb _ _ _ _ _ _ _ _ _ r1 h fun F2 H2 w l2 r2 p2 => q F2 H2 w (l1.trans l2) r2 p2
  · cases h
theorem de_not (ha : DE X st a fa) : DE X st (.UnaryOp .Not a pos) (e1 gNot fa) := by
  intro Z B F ρ σ H d ρ' Q r h q
  obtain ⟨x, h1, h3⟩ := e1_inv h
  refine ⟨_, pe_not pe_w, ?_⟩
  refine ha _ _ _ _ _ _ _ _ _ r h1 fun F1 H1 u l1 r1 p1 => ?_
  cases x <;> cases h3
  cases p1
  exact ⟨_, rfl, q F1 H1 _ l1 r1 (.bl _)⟩
def eIf (ft : Ft) (fa fb : Fe) : Fe := fun ρ => match ft ρ with
  | some (true, ρ1) => fa ρ1
  | some (false, ρ1) => fb ρ1
  | none => none
theorem de_if {ft : Ft} (hc : DT X st c ft) (ha : DE X st a fa) (hb : DE X st b fb) : DE X st (.IfExp c a b pos) (eIf ft fa fb) := by
  intro Z B F ρ σ H d ρ' Q r h q
  refine ⟨_, pe_ifExp pt_w pe_w pe_w, ?_⟩
  unfold eIf at h
  split at h
  · rename_i ρ1 h1
    refine hc _ _ _ _ _ _ _ _ _ r h1 fun F1 H1 l1 r1 => ?_
    rw [if_pos rfl]
    exact ha _ _ _ _ _ _ _ _ _ r1 h fun F2 H2 w l2 r2 p2 => q F2 H2 w (l1.trans l2) r2 p2
  · rename_i ρ1 h1
    refine hc _ _ _ _ _ _ _ _ _ r h1 fun F1 H1 l1 r1 => ?_
    rw [if_neg Bool.false_ne_true]
    exact hb _ _ _ _ _ _ _ _ _ r1 h fun F2 H2 w l2 r2 p2 => q F2 H2 w (l1.trans l2) r2 p2
  · cases h

/-! ### tests -/
def dTru : D → Option Bool
  | .non => some false
  | .bl b => some b
  | .int i => some (i != 0)
  | .tup ds => some (!ds.isEmpty)
  | .lst ds => some (!ds.isEmpty)
  | _ => none
def tE (fa : Fe) : Ft := fun ρ => match fa ρ with
  | some (x, ρ1) => match dTru x with
    | some k => some (k, ρ1)
    | none => none
  | none => none
theorem RpA.empty {F : Hp} {vs : List V} {ds : List D} (h : RpA F vs ds) : ds.isEmpty = vs.isEmpty := by
  cases h <;> rfl
theorem seqL {K : PySem.W.Frag} {F H : Hp} (s : Sub F H) {a : Addr} {vs : List V} (h : F a = some (.lst vs)) : SqL K H a vs := .inl (s.rd _ _ h)
theorem seqT {K : PySem.W.Frag} {F H : Hp} (s : Sub F H) {a : Addr} {vs : List V} (h : F a = some (.tup vs)) : SqT K H a vs := .inl (s.rd _ _ h)
theorem dt_e (ha : DE X st a fa) (he : ∀ whole, isTrue a X.env whole = (do let v ← whole; standAt a.pos; holding [v] (truthy v)) := by intro _; rfl) : DT X st a (tE fa) := by
  intro Z B F ρ σ H d ρ' Q r h q
  unfold tE at h
  split at h
  · rename_i x ρ1 h1
    split at h
    · rename_i k h2
      cases h
      refine ⟨_, pt_truth pe_w he, ?_⟩
      refine ha _ _ _ _ _ _ _ _ _ r h1 fun F1 H1 u l1 r1 p1 => ?_
      refine ⟨d, ?_, q F1 H1 l1 r1⟩
      cases p1 with
      | non => cases h2; rfl
      | bl b => cases h2; rfl
      | int i => cases h2; rfl
      | str x => cases h2
      | tup e1 e2 e3 => cases h2; exact .inr (.inl ⟨_, seqT r1.sub e1, by rw [e3.empty]⟩)
      | lst e1 e2 e3 => cases h2; exact .inl ⟨_, seqL r1.sub e1, by rw [e3.empty]⟩
      | dct e1 e2 e3 => cases h2
    · cases h
  · cases h
end
def tNot' (ft : Ft) : Ft := fun ρ => match ft ρ with
  | some (k, ρ1) => some (!k, ρ1)
  | none => none
def tAnd' (fa fb : Ft) : Ft := fun ρ => match fa ρ with
  | some (true, ρ1) => fb ρ1
  | some (false, ρ1) => some (false, ρ1)
  | none => none
def tOr' (fa fb : Ft) : Ft := fun ρ => match fa ρ with
  | some (true, ρ1) => some (true, ρ1)
  | some (false, ρ1) => fb ρ1
  | none => none
section
variable {fa fb : Ft} {rest : List Expr}
theorem dt_not (ha : DT X st a fa) : DT X st (.UnaryOp .Not a pos) (tNot' fa) := by
  intro Z B F ρ σ H d ρ' Q r h q
  unfold tNot' at h
  split at h
  · rename_i k ρ1 h1
    cases h
    refine ⟨_, pt_not pt_w, ?_⟩
    exact ha _ _ _ _ _ _ _ _ _ r h1 fun F1 H1 l1 r1 => q F1 H1 l1 r1
  · cases h
theorem dt_w (ha : DW X st a fa) : DT X st a fa := by
  intro Z B F ρ σ H d ρ' Q r h q
  exact ⟨_, pw_w.pt, ha _ _ _ _ _ _ _ _ _ r h q⟩
theorem dw_and1 (ha : DT X st a fa) : DW X st (.BoolOp .And [a] pos) fa := by
  intro Z B F ρ σ H d ρ' Q r h q
  exact ⟨_, pw_and1 pt_w, ha _ _ _ _ _ _ _ _ _ r h q⟩
theorem dw_or1 (ha : DT X st a fa) : DW X st (.BoolOp .Or [a] pos) fa := by
  intro Z B F ρ σ H d ρ' Q r h q
  exact ⟨_, pw_or1 pt_w, ha _ _ _ _ _ _ _ _ _ r h q⟩
theorem dw_and (ha : DT X st a fa) (hb : DW X st (.BoolOp .And (b :: rest) pos) fb) : DW X st (.BoolOp .And (a :: b :: rest) pos) (tAnd' fa fb) := by
  intro Z B F ρ σ H d ρ' Q r h q
  refine ⟨_, pw_and pt_w pw_w, ?_⟩
  unfold tAnd' at h
  split at h
  · rename_i ρ1 h1
    refine ha _ _ _ _ _ _ _ _ _ r h1 fun F1 H1 l1 r1 => ?_
    rw [if_pos rfl]
    exact hb _ _ _ _ _ _ _ _ _ r1 h fun F2 H2 l2 r2 => q F2 H2 (l1.trans l2) r2
  · rename_i ρ1 h1
    cases h
    refine ha _ _ _ _ _ _ _ _ _ r h1 fun F1 H1 l1 r1 => ?_
    rw [if_neg Bool.false_ne_true]
    exact q F1 H1 l1 r1
  · cases h
theorem dw_or (ha : DT X st a fa) (hb : DW X st (.BoolOp .Or (b :: rest) pos) fb) : DW X st (.BoolOp .Or (a :: b :: rest) pos) (tOr' fa fb) := by
  intro Z B F ρ σ H d ρ' Q r h q
  refine ⟨_, pw_or pt_w pw_w, ?_⟩
  unfold tOr' at h
  split at h
  · rename_i ρ1 h1
    cases h
    refine ha _ _ _ _ _ _ _ _ _ r h1 fun F1 H1 l1 r1 => ?_
    rw [if_pos rfl]
    exact q F1 H1 l1 r1
  · rename_i ρ1 h1
    refine ha _ _ _ _ _ _ _ _ _ r h1 fun F1 H1 l1 r1 => ?_
    rw [if_neg Bool.false_ne_true]
    exact hb _ _ _ _ _ _ _ _ _ r1 h fun F2 H2 l2 r2 => q F2 H2 (l1.trans l2) r2
  · cases h
end

/-! ### argument lists, displays -/
def aNil : Fa := fun ρ => some ([], ρ)
def aCons (fa : Fe) (fr : Fa) : Fa := fun ρ => match fa ρ with
  | some (x, ρ1) => match fr ρ1 with
    | some (xs, ρ2) => some (x :: xs, ρ2)
    | none => none
  | none => none
theorem da_nil : DA X st [] aNil := by
  intro Z B F ρ σ H d ρ' Q r h q
  cases h
  exact ⟨_, pa_nil, q F H [] (Le.refl F) r .nil⟩
theorem aCons_inv {fa : Fe} {fr : Fa} {ρ ρ' : Rho} {ds : List D} (h : aCons fa fr ρ = some (ds, ρ')) : ∃ x ρ1 xs, ds = x :: xs ∧ fa ρ = some (x, ρ1) ∧ fr ρ1 = some (xs, ρ') := by
  unfold aCons at h
  split at h
  · rename_i x ρ1 h1
    split at h
    · rename_i xs ρ2 h2
      cases h
      exact ⟨x, ρ1, xs, rfl, h1, h2⟩
    · cases h
  · cases h
theorem da_cons {fa : Fe} {fr : Fa} (ha : DE X st e fa) (hr : DA X st es fr) (hs : starEach (e :: es) X.env = (false, eval e X.env) :: starEach es X.env := by rfl) : DA X st (e :: es) (aCons fa fr) := by
  intro Z B F ρ σ H ds ρ' Q r h q
  obtain ⟨x, ρ1, xs, rfl, h1, h2⟩ := aCons_inv h
  refine ⟨_, pa_cons pe_w pa_w hs, ?_⟩
  refine ha _ _ _ _ _ _ _ _ _ r h1 fun F1 H1 u l1 r1 p1 => ?_
  exact hr _ _ _ _ _ _ _ _ _ r1 h2 fun F2 H2 vs l2 r2 p2 => q F2 H2 (u :: vs) (l1.trans l2) r2 (.cons (Rp.mono l2 p1) p2)
/-- at most so many: a written list -/
def gTup (ds : List D) : Option D := if ds.length ≤ 1000 then some (.tup ds) else none
def gLst (ds : List D) : Option D := if ds.length ≤ 1000 then some (.lst ds) else none
theorem line_of {n : Nat} (h : n ≤ 1000) : n ≤ sizeLine := Nat.le_of_lt (small1000 h)
theorem opn_tup {K : PySem.W.Frag} : OpN st K (fun xs H Q => xs.length ≤ sizeLine ∧ ∀ p, H p = none → Q (.ref p) (upd H p (.tup xs))) gTup := by
  intro Z B F ρ σ H xs dxs d Q r p h q
  unfold gTup at h
  split at h
  · rename_i hl
    cases h
    have hz : xs.length ≤ sizeLine := by rw [p.length]; exact line_of hl
    refine ⟨hz, fun a hn => q _ _ _ (r.leNew hn) (r.new hn) (.tup upd_same hz (RpA.mono (r.leNew hn) p))⟩
  · cases h
theorem opn_lst {K : PySem.W.Frag} : OpN st K (fun xs H Q => xs.length ≤ sizeLine ∧ ∀ p, H p = none → Q (.ref p) (upd H p (.lst xs))) gLst := by
  intro Z B F ρ σ H xs dxs d Q r p h q
  unfold gLst at h
  split at h
  · rename_i hl
    cases h
    have hz : xs.length ≤ sizeLine := by rw [p.length]; exact line_of hl
    refine ⟨hz, fun a hn => q _ _ _ (r.leNew hn) (r.new hn) (.lst upd_same hz (RpA.mono (r.leNew hn) p))⟩
  · cases h
theorem de_tup {fa : Fa} {k : Nat} (ha : DA X st es fa) : DE X st (.Tuple es k pos) (eN gTup fa) := by
  intro Z B F ρ σ H d ρ' Q r h q
  obtain ⟨x, h1, h3⟩ := eN_inv h
  refine ⟨_, pe_tup pa_w, ?_⟩
  refine ha _ _ _ _ _ _ _ _ _ r h1 fun F1 H1 u l1 r1 p1 => ?_
  exact opn_tup (K := X.K) _ _ _ _ _ _ _ _ _ _ r1 p1 h3 fun F2 H2 w l2 r2 p3 => q F2 H2 w (l1.trans l2) r2 p3
theorem de_lst {fa : Fa} (ha : DA X st es fa) : DE X st (.List es pos) (eN gLst fa) := by
  intro Z B F ρ σ H d ρ' Q r h q
  obtain ⟨x, h1, h3⟩ := eN_inv h
  refine ⟨_, pe_lst pa_w, ?_⟩
  refine ha _ _ _ _ _ _ _ _ _ r h1 fun F1 H1 u l1 r1 p1 => ?_
  exact opn_lst (K := X.K) _ _ _ _ _ _ _ _ _ _ r1 p1 h3 fun F2 H2 w l2 r2 p3 => q F2 H2 w (l1.trans l2) r2 p3
end
end Kx
set_option Elab.async false
set_option linter.all false
set_option maxRecDepth 100000
set_option maxHeartbeats 4000000
/-! operators on data, calls of built-ins and of defs, subscripts, slices -/
namespace Kx
open PySem PySem.Spec PyProof.Rows L2

section
variable {X : Cx} {st : Option Addr} {K : PySem.W.Frag} {e a b c : Expr} {es : List Expr} {pos : Pos} {fa fb : Fe}

/-! ### ints and tuples: + - * // % ** and comparisons -/
def gI (f : Int → Int → Int) : D → D → Option D
  | .int i, .int j => some (.int (f i j))
  | _, _ => none
theorem op2_I {f : Int → Int → Int} : Op2 st K (rI0 fun i j => .int (f i j)) (gI f) := by
  intro Z B F ρ σ H x y dx dy d Q r p1 p2 h q
  cases dx <;> cases dy <;> cases h
  cases p1
  cases p2
  exact ⟨_, _, rfl, rfl, q F H _ (Le.refl F) r (.int _)⟩
def gIC (C : Int → Int → Bool) (f : Int → Int → Int) : D → D → Option D
  | .int i, .int j => if C i j = true then some (.int (f i j)) else none
  | _, _ => none
theorem op2_IC {C : Int → Int → Bool} {P : Int → Int → Prop} {f : Int → Int → Int} (hC : ∀ i j, C i j = true → P i j) : Op2 st K (rI P fun i j => .int (f i j)) (gIC C f) := by
  intro Z B F ρ σ H x y dx dy d Q r p1 p2 h q
  cases dx <;> cases dy <;> simp only [gIC] at h <;> try (cases h)
  split at h
  · rename_i hc
    cases h
    cases p1
    cases p2
    exact ⟨_, _, rfl, rfl, hC _ _ hc, q F H _ (Le.refl F) r (.int _)⟩
  · cases h
def gB (f : Int → Int → Bool) : D → D → Option D
  | .int i, .int j => some (.bl (f i j))
  | _, _ => none
theorem op2_B {f : Int → Int → Bool} : Op2 st K (rI0 fun i j => .bl (f i j)) (gB f) := by
  intro Z B F ρ σ H x y dx dy d Q r p1 p2 h q
  cases dx <;> cases dy <;> cases h
  cases p1
  cases p2
  exact ⟨_, _, rfl, rfl, q F H _ (Le.refl F) r (.bl _)⟩
/-- + of two ints, of two tuples -/
def gAdd : D → D → Option D
  | .int i, .int j => some (.int (i + j))
  | .tup xs, .tup ys => if xs.length + ys.length ≤ 1000 then some (.tup (xs ++ ys)) else none
  | _, _ => none
theorem RpA.nil_of {F : Hp} {vs : List V} (h : RpA F vs []) : vs = [] := by
  cases h
  rfl
theorem RpA.of_nil {F : Hp} {ds : List D} (h : RpA F [] ds) : ds = [] := by
  cases h
  rfl
theorem op2_add : Op2 st K (fun x y H Q => (rI0 fun i j => .int (i + j)) x y H Q ∨ rCatA K x y H Q) gAdd := by
  intro Z B F ρ σ H x y dx dy d Q r p1 p2 h q
  cases dx <;> cases dy <;> simp only [gAdd] at h <;> try (cases h)
  · left
    cases p1
    cases p2
    exact ⟨_, _, rfl, rfl, q F H _ (Le.refl F) r (.int _)⟩
  · right
    rename_i xs ys
    split at h
    · rename_i hl
      cases h
      cases p1 with
      | @tup a vs _ e1 e2 e3 =>
        cases p2 with
        | @tup b ws _ e4 e5 e6 =>
          have hz : vs.length + ws.length ≤ sizeLine := by rw [e3.length, e6.length]; exact line_of hl
          refine ⟨a, b, vs, ws, rfl, rfl, seqT r.sub e1, seqT r.sub e4, hz, fun z => ?_, fun z1 z2 => ?_, fun z1 z2 p hp => ?_⟩
          · subst z
            have z' := e3.of_nil
            subst z'
            exact q F H _ (Le.refl F) r (.tup e4 e5 e6)
          · subst z2
            have z' := e6.of_nil
            subst z'
            rw [List.append_nil] at q
            exact q F H _ (Le.refl F) r (.tup e1 e2 e3)
          · have l := r.leNew (o := .tup (vs ++ ws)) hp
            exact q _ _ _ l (r.new hp) (.tup upd_same (by rw [List.length_append]; exact hz) (RpA.append (RpA.mono l e3) (RpA.mono l e6)))
    · cases h
theorem opr_add : OpR X (binaryOp .Add) (fun x y H Q => (rI0 fun i j => .int (i + j)) x y H Q ∨ rCatA X.K x y H Q) := op_add.or op_catA
theorem de_add (ha : DE X st a fa) (hb : DE X st b fb) : DE X st (.BinOp a .Add b pos) (e2 gAdd fa fb) := de_bin opr_add op2_add ha hb
theorem de_sub (ha : DE X st a fa) (hb : DE X st b fb) : DE X st (.BinOp a .Sub b pos) (e2 (gI fun i j => i - j) fa fb) := de_bin op_sub op2_I ha hb
def cMul (i j : Int) : Bool := decide ((-(2 ^ 64) < i ∧ i < 2 ^ 64) ∨ (-(2 ^ 64) < j ∧ j < 2 ^ 64))
theorem de_mul (ha : DE X st a fa) (hb : DE X st b fb) : DE X st (.BinOp a .Mult b pos) (e2 (gIC cMul fun i j => i * j) fa fb) := de_bin op_mul (op2_IC fun i j h => by have h' := of_decide_eq_true h; exact h') ha hb
def cDiv (_ j : Int) : Bool := decide (0 < j ∧ j < 1073741824)
theorem de_fdiv (ha : DE X st a fa) (hb : DE X st b fb) : DE X st (.BinOp a .FloorDiv b pos) (e2 (gIC cDiv fun i j => i / j) fa fb) := de_bin op_fdiv (op2_IC fun i j h => by have h' := of_decide_eq_true h; exact h') ha hb
def cMod (_ j : Int) : Bool := decide (0 < j)
theorem de_mod (ha : DE X st a fa) (hb : DE X st b fb) : DE X st (.BinOp a .Mod b pos) (e2 (gIC cMod fun i j => i % j) fa fb) := de_bin op_mod (op2_IC fun _ _ h => of_decide_eq_true h) ha hb
def cPow (i j : Int) : Bool := decide (0 ≤ j ∧ j ≤ 1000000 ∧ i.natAbs < 2 ^ 64)
theorem de_pow (ha : DE X st a fa) (hb : DE X st b fb) : DE X st (.BinOp a .Pow b pos) (e2 (gIC cPow fun i j => i ^ j.toNat) fa fb) := de_bin op_pow (op2_IC fun i j h => by have h' := of_decide_eq_true h; exact h') ha hb
theorem de_lt (ha : DE X st a fa) (hb : DE X st b fb) : DE X st (.Compare a [.Lt] [b] pos) (e2 (gB fun i j => decide (i < j)) fa fb) := de_cmp op_lt op2_B ha hb (nomark _)
theorem de_le (ha : DE X st a fa) (hb : DE X st b fb) : DE X st (.Compare a [.LtE] [b] pos) (e2 (gB fun i j => decide (i ≤ j)) fa fb) := de_cmp op_le op2_B ha hb (nomark _)
theorem de_gt (ha : DE X st a fa) (hb : DE X st b fb) : DE X st (.Compare a [.Gt] [b] pos) (e2 (gB fun i j => decide (j < i)) fa fb) := de_cmp op_gt op2_B ha hb (nomark _)
theorem de_ge (ha : DE X st a fa) (hb : DE X st b fb) : DE X st (.Compare a [.GtE] [b] pos) (e2 (gB fun i j => decide (j ≤ i)) fa fb) := de_cmp op_ge op2_B ha hb (nomark _)
def gNeg : D → Option D
  | .int i => some (.int (-i))
  | _ => none
theorem de_neg (ha : DE X st a fa) : DE X st (.UnaryOp .USub a pos) (e1 gNeg fa) := by
  refine de_un un_neg (fun Z B F ρ σ H x dx d Q r p h q => ?_) ha
  cases dx <;> cases h
  cases p
  exact ⟨_, rfl, q F H _ (Le.refl F) r (.int _)⟩

/-! ### == and != of data: scalars, tuples of scalars -/
def py0 : D → Option PyData
  | .non => some .none
  | .bl b => some (.bool b)
  | .int i => some (.int i)
  | .str x => some (.str x)
  | _ => none
def py0s : List D → Option (List PyData)
  | [] => some []
  | d :: ds => match py0 d, py0s ds with
    | some p, some ps => some (p :: ps)
    | _, _ => none
def py1 : D → Option PyData
  | .tup ds => match py0s ds with
    | some ps => some (.tuple ps)
    | none => none
  | d => py0 d
theorem dp0 {F H : Hp} {v : V} {d : D} {p : PyData} (h : Rp F v d) (e : py0 d = some p) : Dp K H v p := by
  cases h <;> cases e
  · exact .non
  · exact .bl _
  · exact .int _
  · exact .str _
theorem dp0s {F H : Hp} : ∀ {vs : List V} {ds : List D} {ps : List PyData}, RpA F vs ds → py0s ds = some ps → DpAll K H vs ps
  | _, _, _, .nil, e => by
    cases e
    exact .nil
  | _, _, _, @RpA.cons _ v d vs ds h a, e => by
    unfold py0s at e
    split at e
    · rename_i p ps e1 e2
      cases e
      exact .cons (dp0 h e1) (dp0s a e2)
    · cases e
theorem dp1 {F H : Hp} {v : V} {d : D} {p : PyData} (s : Sub F H) (h : Rp F v d) (e : py1 d = some p) : Dp K H v p := by
  cases h with
  | tup h1 h2 h3 =>
    unfold py1 at e
    split at e
    · rename_i heq
      cases heq
      split at e
      · rename_i ps e1
        cases e
        exact .tup (seqT s h1) (dp0s h3 e1)
      · cases e
    · rename_i hne
      exact absurd rfl (hne _)
  | non => exact dp0 (F := F) .non e
  | bl b => exact dp0 (F := F) (.bl b) e
  | int b => exact dp0 (F := F) (.int b) e
  | str b => exact dp0 (F := F) (.str b) e
  | lst h1 h2 h3 => cases e
  | dct h1 h2 h3 => cases e
def gEqv (neg : Bool) (x y : D) : Option D := match py1 x, py1 y with
  | some p, some q => if (SeqAt.shaped p && SeqAt.shaped q) = true then some (.bl (if neg then !PyData.eqv p q else PyData.eqv p q)) else none
  | _, _ => none
theorem op2_eq : Op2 st K (rEqD K) (gEqv false) := by
  intro Z B F ρ σ H x y dx dy d Q r p1 p2 h q
  unfold gEqv at h
  split at h
  · rename_i p q' e1 e2
    split at h
    · rename_i hs
      rw [Bool.and_eq_true] at hs
      cases h
      exact ⟨p, q', dp1 r.sub p1 e1, dp1 r.sub p2 e2, hs.1, hs.2, q F H _ (Le.refl F) r (.bl _)⟩
    · cases h
  · cases h
theorem op2_ne : Op2 st K (rNeD K) (gEqv true) := by
  intro Z B F ρ σ H x y dx dy d Q r p1 p2 h q
  unfold gEqv at h
  split at h
  · rename_i p q' e1 e2
    split at h
    · rename_i hs
      rw [Bool.and_eq_true] at hs
      cases h
      exact ⟨p, q', dp1 r.sub p1 e1, dp1 r.sub p2 e2, hs.1, hs.2, q F H _ (Le.refl F) r (.bl _)⟩
    · cases h
  · cases h
theorem de_eq (hu : X.A.units + 64 < cLine) (ha : DE X st a fa) (hb : DE X st b fb) : DE X st (.Compare a [.Eq] [b] pos) (e2 (gEqv false) fa fb) := de_cmp (op_eqD hu) op2_eq ha hb (nomark _)
theorem de_ne (hu : X.A.units + 64 < cLine) (ha : DE X st a fa) (hb : DE X st b fb) : DE X st (.Compare a [.NotEq] [b] pos) (e2 (gEqv true) fa fb) := de_cmp (op_neD hu) op2_ne ha hb (nomark _)

/-! ### is None, is True -/
def isNon : D → Bool
  | .non => true
  | _ => false
theorem Rp.isNon {F : Hp} {v : V} {d : D} (h : Rp F v d) : decide (v = .non) = isNon d := by
  cases h <;> rfl
def gIsN : D → Option D := fun d => some (.bl (isNon d))
def gNotN : D → Option D := fun d => some (.bl (!isNon d))
theorem de_isN {j : Nat} {pos' : Pos} (ha : DE X st a fa) : DE X st (.Compare a [.Is] [.Constant .none j pos'] pos) (e1 gIsN fa) := by
  intro Z B F ρ σ H d ρ' Q r h q
  obtain ⟨x, h1, h3⟩ := e1_inv h
  refine ⟨_, pe_cmp (pc_isN pe_w) rfl, ?_⟩
  refine ha _ _ _ _ _ _ _ _ _ r h1 fun F1 H1 u l1 r1 p1 => ?_
  cases h3
  show Q (.bl (decide (u = .non))) H1
  rw [p1.isNon]
  exact q F1 H1 _ l1 r1 (.bl _)
theorem de_notN {j : Nat} {pos' : Pos} (ha : DE X st a fa) : DE X st (.Compare a [.IsNot] [.Constant .none j pos'] pos) (e1 gNotN fa) := by
  intro Z B F ρ σ H d ρ' Q r h q
  obtain ⟨x, h1, h3⟩ := e1_inv h
  refine ⟨_, pe_cmp (pc_notN pe_w) rfl, ?_⟩
  refine ha _ _ _ _ _ _ _ _ _ r h1 fun F1 H1 u l1 r1 p1 => ?_
  cases h3
  show Q (.bl (!decide (u = .non))) H1
  rw [p1.isNon]
  exact q F1 H1 _ l1 r1 (.bl _)
def gIsB (neg : Bool) : D → D → Option D
  | .bl x, .bl y => some (.bl (if neg then !decide (x = y) else decide (x = y)))
  | _, _ => none
theorem de_isB (ha : DE X st a fa) (hb : DE X st b fb) : DE X st (.Compare a [.Is] [b] pos) (e2 (gIsB false) fa fb) := by
  refine de_cmp op_isBl (fun Z B F ρ σ H x y dx dy d Q r p1 p2 h q => ?_) ha hb (nomark _)
  cases dx <;> cases dy <;> cases h
  cases p1
  cases p2
  exact ⟨_, _, rfl, rfl, q F H _ (Le.refl F) r (.bl _)⟩
theorem de_notB (ha : DE X st a fa) (hb : DE X st b fb) : DE X st (.Compare a [.IsNot] [b] pos) (e2 (gIsB true) fa fb) := by
  refine de_cmp op_notBl (fun Z B F ρ σ H x y dx dy d Q r p1 p2 h q => ?_) ha hb (nomark _)
  cases dx <;> cases dy <;> cases h
  cases p1
  cases p2
  exact ⟨_, _, rfl, rfl, q F H _ (Le.refl F) r (.bl _)⟩

/-! ### lists of ints, of bools -/
def dInts : List D → Option (List Int)
  | [] => some []
  | .int i :: ds => match dInts ds with
    | some ns => some (i :: ns)
    | none => none
  | _ :: _ => none
def dBools : List D → Option (List Bool)
  | [] => some []
  | .bl i :: ds => match dBools ds with
    | some ns => some (i :: ns)
    | none => none
  | _ :: _ => none
theorem RpA.ints {F : Hp} : ∀ {vs : List V} {ds : List D} {ns : List Int}, RpA F vs ds → dInts ds = some ns → vs = ns.map V.int
  | _, _, _, .nil, e => by
    cases e
    rfl
  | _, _, _, @RpA.cons _ v d vs ds h a, e => by
    cases h <;> simp only [dInts] at e <;> try (cases e)
    split at e
    · rename_i ns e1
      cases e
      rw [List.map_cons, RpA.ints a e1]
    · cases e
theorem RpA.bools {F : Hp} : ∀ {vs : List V} {ds : List D} {ns : List Bool}, RpA F vs ds → dBools ds = some ns → vs = ns.map V.bl
  | _, _, _, .nil, e => by
    cases e
    rfl
  | _, _, _, @RpA.cons _ v d vs ds h a, e => by
    cases h <;> simp only [dBools] at e <;> try (cases e)
    split at e
    · rename_i ns e1
      cases e
      rw [List.map_cons, RpA.bools a e1]
    · cases e
theorem dInts_map (ns : List Int) : dInts (ns.map D.int) = some ns := by
  induction ns with
  | nil => rfl
  | cons n ns ih => simp only [List.map_cons, dInts, ih]
theorem dBools_map (ns : List Bool) : dBools (ns.map D.bl) = some ns := by
  induction ns with
  | nil => rfl
  | cons n ns ih => simp only [List.map_cons, dBools, ih]

/-! ### in, not in: an int in a list or tuple of ints -/
def gInS (neg : Bool) (x y : D) : Option D := match x with
  | .int i => match y with
    | .lst ds => match dInts ds with
      | some ns => some (.bl (if neg then !ns.contains i else ns.contains i))
      | none => none
    | .tup ds => match dInts ds with
      | some ns => some (.bl (if neg then !ns.contains i else ns.contains i))
      | none => none
    | _ => none
  | _ => none
theorem inV_ints (i : Int) : ∀ ns : List Int, inV (.int i) (ns.map V.int) = ns.contains i
  | [] => rfl
  | n :: ns => by
    show (eqV (.int n) (.int i) || inV (.int i) (ns.map V.int)) = _
    rw [inV_ints i ns, List.contains_cons]
    show ((n == i) || _) = _
    rw [show (n == i) = (i == n) from BEq.comm]
theorem flat_ints : ∀ ns : List Int, (ns.map V.int).all flatV = true
  | [] => rfl
  | n :: ns => flat_ints ns
theorem op2_in (neg : Bool) : Op2 st K (rIn K neg) (gInS neg) := by
  intro Z B F ρ σ H x y dx dy d Q r p1 p2 h q
  unfold gInS at h
  split at h
  · cases p1
    split at h
    · split at h
      · rename_i ns e
        cases h
        cases p2 with
        | lst h1 h2 h3 =>
          have ev := h3.ints e
          subst ev
          refine ⟨_, _, rfl, .inl (seqL r.sub h1), rfl, flat_ints ns, ?_⟩
          rw [inV_ints]
          exact q F H _ (Le.refl F) r (.bl _)
      · cases h
    · split at h
      · rename_i ns e
        cases h
        cases p2 with
        | tup h1 h2 h3 =>
          have ev := h3.ints e
          subst ev
          refine ⟨_, _, rfl, .inr (seqT r.sub h1), rfl, flat_ints ns, ?_⟩
          rw [inV_ints]
          exact q F H _ (Le.refl F) r (.bl _)
      · cases h
    · cases h
  · cases h
theorem de_inS (ha : DE X st a fa) (hb : DE X st b fb) (hm : behindInMarks .In b = false := by rfl) : DE X st (.Compare a [.In] [b] pos) (e2 (gInS false) fa fb) := de_cmp op_in_seq (op2_in false) ha hb hm
theorem de_notInS (ha : DE X st a fa) (hb : DE X st b fb) (hm : behindInMarks .NotIn b = false := by rfl) : DE X st (.Compare a [.NotIn] [b] pos) (e2 (gInS true) fa fb) := de_cmp op_notIn_seq (op2_in true) ha hb hm
/-- not in a tuple of texts of the module's own top -/
def gNotInT (zs : List Str) : D → Option D
  | .str x => some (.bl (!zs.contains x))
  | _ => none
theorem inV_strs (i : Str) : ∀ ns : List Str, inV (.str i) (ns.map V.str) = ns.contains i
  | [] => rfl
  | n :: ns => by
    show (eqV (.str n) (.str i) || inV (.str i) (ns.map V.str)) = _
    rw [inV_strs i ns, List.contains_cons]
    show ((n == i) || _) = _
    rw [show (n == i) = (i == n) from BEq.comm]
theorem flat_strs : ∀ ns : List Str, (ns.map V.str).all flatV = true
  | [] => rfl
  | n :: ns => flat_strs ns
theorem de_notInK {x : Str} {g : Addr} {zs : List Str} {pos' : Pos} (ha : DE X st a fa) (hg : Gl X x) (hm : X.mg x = some (.ref g)) (hk : ∀ H, SqT X.K H g (zs.map V.str)) (hd : (x == ("__debug__" : Str)) = false := by decide)
    (hmk : behindInMarks .NotIn (.Name x pos') = false := by rfl) : DE X st (.Compare a [.NotIn] [.Name x pos'] pos) (e1 (gNotInT zs) fa) := by
  intro Z B F ρ σ H d ρ' Q r h q
  obtain ⟨y, h1, h3⟩ := e1_inv h
  refine ⟨_, pe_cmpR op_notIn_seq pe_w (pe_glob (v := .ref g) hg hm rfl hd) hmk, ?_⟩
  refine ha _ _ _ _ _ _ _ _ _ r h1 fun F1 H1 u l1 r1 p1 => ?_
  cases p1 <;> cases h3
  refine ⟨_, _, rfl, .inr (hk H1), rfl, flat_strs zs, ?_⟩
  rw [inV_strs]
  exact q F1 H1 _ l1 r1 (.bl _)
end
end Kx
set_option Elab.async false
set_option linter.all false
set_option maxRecDepth 100000
set_option maxHeartbeats 4000000
/-! calls of built-ins and of defs, subscripts, slices -/
namespace Kx
open PySem PySem.Spec PyProof.Rows L2

section
variable {X : Cx} {st : Option Addr} {K : PySem.W.Frag} {e a b c : Expr} {es : List Expr} {pos p : Pos} {fa fb : Fe}

/-! ### built-ins by name -/
theorem de_callB {id : String} {x : Str} {r : List V → Hp → VK → Prop} {g : List D → Option D} {fs : Fa} (hc : CallR X (.builtin id) r) (ho : OpN st X.K r g) (hg : Gl X x) (hm : X.mg x = none) (hv : bootBuiltins x = some (.builtin id)) (ha : DA X st (e :: es) fs) (hn : x ≠ "__name__" := by decide) (hdb : (x == ("__debug__" : Str)) = false := by decide)
    (he : starEach (e :: es) X.env = (false, eval e X.env) :: starEach es X.env := by rfl) (hpl : (backTo pos (starEach es X.env)).any (·.1) = false := by rfl) : DE X st (.Call (.Name x p) (e :: es) [] pos) (eN g fs) := by
  intro Z B F ρ σ H d ρ' Q r h q
  obtain ⟨y, h1, h3⟩ := eN_inv h
  refine ⟨_, pe_callB hc hg hm hv pa_w hn hdb he hpl, ?_⟩
  refine ha _ _ _ _ _ _ _ _ _ r h1 fun F1 H1 u l1 r1 p1 => ?_
  exact ho _ _ _ _ _ _ _ _ _ _ r1 p1 h3 fun F2 H2 w l2 r2 p3 => q F2 H2 w (l1.trans l2) r2 p3
theorem de_callTy {T : String} {x : Str} {r : List V → Hp → VK → Prop} {g : List D → Option D} {fs : Fa} (hc : CallR X (.type T) r) (ho : OpN st X.K r g) (hg : Gl X x) (hm : X.mg x = none) (hv : bootBuiltins x = some (.type T)) (ha : DA X st (e :: es) fs) (hn : x ≠ "__name__" := by decide) (hdb : (x == ("__debug__" : Str)) = false := by decide)
    (he : starEach (e :: es) X.env = (false, eval e X.env) :: starEach es X.env := by rfl) (hpl : (backTo pos (starEach es X.env)).any (·.1) = false := by rfl) : DE X st (.Call (.Name x p) (e :: es) [] pos) (eN g fs) := by
  intro Z B F ρ σ H d ρ' Q r h q
  obtain ⟨y, h1, h3⟩ := eN_inv h
  refine ⟨_, pe_callTy hc hg hm hv pa_w hn hdb he hpl, ?_⟩
  refine ha _ _ _ _ _ _ _ _ _ r h1 fun F1 H1 u l1 r1 p1 => ?_
  exact ho _ _ _ _ _ _ _ _ _ _ r1 p1 h3 fun F2 H2 w l2 r2 p3 => q F2 H2 w (l1.trans l2) r2 p3

theorem RpA.one {F : Hp} {vs : List V} {d : D} (h : RpA F vs [d]) : ∃ v, vs = [v] ∧ Rp F v d := by
  cases h with
  | cons h t =>
    cases t
    exact ⟨_, rfl, h⟩
theorem RpA.two {F : Hp} {vs : List V} {d e : D} (h : RpA F vs [d, e]) : ∃ v w, vs = [v, w] ∧ Rp F v d ∧ Rp F w e := by
  cases h with
  | cons h t =>
    obtain ⟨w, rfl, h2⟩ := t.one
    exact ⟨_, _, rfl, h, h2⟩

/-- len -/
def gLen : List D → Option D
  | [.tup ds] => some (.int ds.length)
  | [.lst ds] => some (.int ds.length)
  | _ => none
theorem opn_len : OpN st K (fun xs H Q => ∃ x n, xs = [x] ∧ LenV K x H n ∧ Q (.int n) H) gLen := by
  intro Z B F ρ σ H xs dxs d Q r p h q
  unfold gLen at h
  split at h
  · cases h
    obtain ⟨v, rfl, h1⟩ := p.one
    cases h1 with
    | tup e1 e2 e3 =>
      refine ⟨_, _, rfl, .inr ⟨_, seqT r.sub e1, rfl⟩, ?_⟩
      rw [e3.length]
      exact q F H _ (Le.refl F) r (.int _)
  · cases h
    obtain ⟨v, rfl, h1⟩ := p.one
    cases h1 with
    | lst e1 e2 e3 =>
      refine ⟨_, _, rfl, .inl ⟨_, seqL r.sub e1, rfl⟩, ?_⟩
      rw [e3.length]
      exact q F H _ (Le.refl F) r (.int _)
  · cases h
/-- abs, max and min of two -/
def gAbs : List D → Option D
  | [.int i] => some (.int (if i < 0 then -i else i))
  | _ => none
theorem opn_abs : OpN st K (fun xs H Q => ∃ i, xs = [.int i] ∧ Q (.int (if i < 0 then -i else i)) H) gAbs := by
  intro Z B F ρ σ H xs dxs d Q r p h q
  unfold gAbs at h
  split at h
  · cases h
    obtain ⟨v, rfl, h1⟩ := p.one
    cases h1
    exact ⟨_, rfl, q F H _ (Le.refl F) r (.int _)⟩
  · cases h
def gMax2 : List D → Option D
  | [.int i, .int j] => some (.int (if j > i then j else i))
  | _ => none
theorem opn_max2 : OpN st K (fun xs H Q => ∃ i j, xs = [.int i, .int j] ∧ Q (.int (if j > i then j else i)) H) gMax2 := by
  intro Z B F ρ σ H xs dxs d Q r p h q
  unfold gMax2 at h
  split at h
  · cases h
    obtain ⟨v, w, rfl, h1, h2⟩ := p.two
    cases h1
    cases h2
    exact ⟨_, _, rfl, q F H _ (Le.refl F) r (.int _)⟩
  · cases h
def gMin2 : List D → Option D
  | [.int i, .int j] => some (.int (if j < i then j else i))
  | _ => none
theorem opn_min2 : OpN st K (fun xs H Q => ∃ i j, xs = [.int i, .int j] ∧ Q (.int (if j < i then j else i)) H) gMin2 := by
  intro Z B F ρ σ H xs dxs d Q r p h q
  unfold gMin2 at h
  split at h
  · cases h
    obtain ⟨v, w, rfl, h1, h2⟩ := p.two
    cases h1
    cases h2
    exact ⟨_, _, rfl, q F H _ (Le.refl F) r (.int _)⟩
  · cases h
/-- int(x) -/
def gInt : List D → Option D
  | [.int i] => some (.int i)
  | [.bl k] => some (.int (if k then 1 else 0))
  | _ => none
theorem opn_int : OpN st K (fun xs H Q => (∃ i, xs = [.int i] ∧ Q (.int i) H) ∨ ∃ k, xs = [.bl k] ∧ Q (.int (if k then 1 else 0)) H) gInt := by
  intro Z B F ρ σ H xs dxs d Q r p h q
  unfold gInt at h
  split at h
  · cases h
    obtain ⟨v, rfl, h1⟩ := p.one
    cases h1
    exact .inl ⟨_, rfl, q F H _ (Le.refl F) r (.int _)⟩
  · cases h
    obtain ⟨v, rfl, h1⟩ := p.one
    cases h1
    exact .inr ⟨_, rfl, q F H _ (Le.refl F) r (.int _)⟩
  · cases h
/-- str(n) -/
def gStr : List D → Option D
  | [.int i] => if i.natAbs.log2 < 1920 then some (.str (toString i)) else none
  | _ => none
theorem opn_str : OpN st K (fun xs H Q => ∃ i, xs = [.int i] ∧ i.natAbs.log2 < 1920 ∧ Q (.str (toString i)) H) gStr := by
  intro Z B F ρ σ H xs dxs d Q r p h q
  unfold gStr at h
  split at h
  · split at h
    · rename_i hz
      cases h
      obtain ⟨v, rfl, h1⟩ := p.one
      cases h1
      exact ⟨_, rfl, hz, q F H _ (Le.refl F) r (.str _)⟩
    · cases h
  · cases h
/-- all, any, sum, max, min of a list -/
def gAll : List D → Option D
  | [.lst ds] => match dBools ds with
    | some bs => some (.bl (bs.all id))
    | none => none
  | _ => none
theorem opn_all : OpN st K (rAll K) gAll := by
  intro Z B F ρ σ H xs dxs d Q r p h q
  unfold gAll at h
  split at h
  · split at h
    · rename_i bs e
      cases h
      obtain ⟨v, rfl, h1⟩ := p.one
      cases h1 with
      | lst e1 e2 e3 =>
        have ev := e3.bools e
        subst ev
        exact ⟨_, _, rfl, seqL r.sub e1, q F H _ (Le.refl F) r (.bl _)⟩
    · cases h
  · cases h
def gAny : List D → Option D
  | [.lst ds] => match dBools ds with
    | some bs => some (.bl (bs.any id))
    | none => none
  | _ => none
theorem opn_any : OpN st K (rAny K) gAny := by
  intro Z B F ρ σ H xs dxs d Q r p h q
  unfold gAny at h
  split at h
  · split at h
    · rename_i bs e
      cases h
      obtain ⟨v, rfl, h1⟩ := p.one
      cases h1 with
      | lst e1 e2 e3 =>
        have ev := e3.bools e
        subst ev
        exact ⟨_, _, rfl, seqL r.sub e1, q F H _ (Le.refl F) r (.bl _)⟩
    · cases h
  · cases h
def gSum : List D → Option D
  | [.lst ds] => match dInts ds with
    | some ns => some (.int ns.sum)
    | none => none
  | _ => none
theorem opn_sum : OpN st K (rSum K) gSum := by
  intro Z B F ρ σ H xs dxs d Q r p h q
  unfold gSum at h
  split at h
  · split at h
    · rename_i bs e
      cases h
      obtain ⟨v, rfl, h1⟩ := p.one
      cases h1 with
      | lst e1 e2 e3 =>
        have ev := e3.ints e
        subst ev
        exact ⟨_, _, rfl, seqL r.sub e1, q F H _ (Le.refl F) r (.int _)⟩
    · cases h
  · cases h
def maxL (n : Int) (ns : List Int) : Int := ns.foldl (fun a b => max a b) n
def minL (n : Int) (ns : List Int) : Int := ns.foldl (fun a b => min a b) n
theorem maxL_spec : ∀ (ns : List Int) (n : Int), maxL n ns ∈ n :: ns ∧ ∀ y ∈ n :: ns, y ≤ maxL n ns
  | [], n => ⟨List.mem_singleton.mpr rfl, fun y hy => by rw [List.mem_singleton.mp hy]; exact Int.le_refl _⟩
  | m :: ns, n => by
    obtain ⟨h1, h2⟩ := maxL_spec ns (max n m)
    have e : maxL n (m :: ns) = maxL (max n m) ns := rfl
    rw [e]
    have hm : max n m ≤ maxL (max n m) ns := h2 _ List.mem_cons_self
    refine ⟨?_, fun y hy => ?_⟩
    · rcases List.mem_cons.mp h1 with h | h
      · rw [h]
        rcases Int.le_total n m with hh | hh
        · rw [Int.max_eq_right hh]
          exact List.mem_cons_of_mem _ List.mem_cons_self
        · rw [Int.max_eq_left hh]
          exact List.mem_cons_self
      · exact List.mem_cons_of_mem _ (List.mem_cons_of_mem _ h)
    · rcases List.mem_cons.mp hy with h | h
      · rw [h]
        exact Int.le_trans (Int.le_max_left n m) hm
      · rcases List.mem_cons.mp h with h | h
        · rw [h]
          exact Int.le_trans (Int.le_max_right n m) hm
        · exact h2 y (List.mem_cons_of_mem _ h)
theorem minL_spec : ∀ (ns : List Int) (n : Int), minL n ns ∈ n :: ns ∧ ∀ y ∈ n :: ns, minL n ns ≤ y
  | [], n => ⟨List.mem_singleton.mpr rfl, fun y hy => by rw [List.mem_singleton.mp hy]; exact Int.le_refl _⟩
  | m :: ns, n => by
    obtain ⟨h1, h2⟩ := minL_spec ns (min n m)
    have e : minL n (m :: ns) = minL (min n m) ns := rfl
    rw [e]
    have hm : minL (min n m) ns ≤ min n m := h2 _ List.mem_cons_self
    refine ⟨?_, fun y hy => ?_⟩
    · rcases List.mem_cons.mp h1 with h | h
      · rw [h]
        rcases Int.le_total n m with hh | hh
        · rw [Int.min_eq_left hh]
          exact List.mem_cons_self
        · rw [Int.min_eq_right hh]
          exact List.mem_cons_of_mem _ List.mem_cons_self
      · exact List.mem_cons_of_mem _ (List.mem_cons_of_mem _ h)
    · rcases List.mem_cons.mp hy with h | h
      · rw [h]
        exact Int.le_trans hm (Int.min_le_left n m)
      · rcases List.mem_cons.mp h with h | h
        · rw [h]
          exact Int.le_trans hm (Int.min_le_right n m)
        · exact h2 y (List.mem_cons_of_mem _ h)
def gMaxL : List D → Option D
  | [.lst ds] => match dInts ds with
    | some (n :: ns) => some (.int (maxL n ns))
    | _ => none
  | _ => none
theorem opn_maxL : OpN st K (rMax K) gMaxL := by
  intro Z B F ρ σ H xs dxs d Q r p h q
  unfold gMaxL at h
  split at h
  · split at h
    · rename_i n ns e
      cases h
      obtain ⟨v, rfl, h1⟩ := p.one
      cases h1 with
      | lst e1 e2 e3 =>
        have ev := e3.ints e
        subst ev
        refine ⟨_, _, rfl, seqL r.sub e1, Nat.zero_lt_succ _, fun m hm hle => ?_⟩
        obtain ⟨s1, s2⟩ := maxL_spec ns n
        have em : m = maxL n ns := Int.le_antisymm (s2 m hm) (hle _ s1)
        rw [em]
        exact q F H _ (Le.refl F) r (.int _)
    · cases h
  · cases h
def gMinL : List D → Option D
  | [.lst ds] => match dInts ds with
    | some (n :: ns) => some (.int (minL n ns))
    | _ => none
  | _ => none
theorem opn_minL : OpN st K (rMin K) gMinL := by
  intro Z B F ρ σ H xs dxs d Q r p h q
  unfold gMinL at h
  split at h
  · split at h
    · rename_i n ns e
      cases h
      obtain ⟨v, rfl, h1⟩ := p.one
      cases h1 with
      | lst e1 e2 e3 =>
        have ev := e3.ints e
        subst ev
        refine ⟨_, _, rfl, seqL r.sub e1, Nat.zero_lt_succ _, fun m hm hle => ?_⟩
        obtain ⟨s1, s2⟩ := minL_spec ns n
        have em : m = minL n ns := Int.le_antisymm (hle _ s1) (s2 m hm)
        rw [em]
        exact q F H _ (Le.refl F) r (.int _)
    · cases h
  · cases h
/-- tuple(xs), list(xs) -/
def gTupOf : List D → Option D
  | [.tup ds] => some (.tup ds)
  | [.lst ds] => some (.tup ds)
  | _ => none
theorem opn_tupOf : OpN st K (fun xs H Q => ∃ p ys, xs = [.ref p] ∧ ((SqL K H p ys ∧ ∀ l, H l = none → Q (.ref l) (upd H l (.tup ys))) ∨ (SqT K H p ys ∧ Q (.ref p) H))) gTupOf := by
  intro Z B F ρ σ H xs dxs d Q r p h q
  unfold gTupOf at h
  split at h
  · cases h
    obtain ⟨v, rfl, h1⟩ := p.one
    cases h1 with
    | tup e1 e2 e3 => exact ⟨_, _, rfl, .inr ⟨seqT r.sub e1, q F H _ (Le.refl F) r (.tup e1 e2 e3)⟩⟩
  · cases h
    obtain ⟨v, rfl, h1⟩ := p.one
    cases h1 with
    | lst e1 e2 e3 => exact ⟨_, _, rfl, .inl ⟨seqL r.sub e1, fun l hl => q _ _ _ (r.leNew hl) (r.new hl) (.tup upd_same e2 (RpA.mono (r.leNew hl) e3))⟩⟩
  · cases h
def gLstOf : List D → Option D
  | [.tup ds] => some (.lst ds)
  | [.lst ds] => some (.lst ds)
  | _ => none
theorem opn_lstOf : OpN st K (fun xs H Q => ∃ p ys, xs = [.ref p] ∧ (SqL K H p ys ∨ SqT K H p ys) ∧ ∀ l, H l = none → Q (.ref l) (upd H l (.lst ys))) gLstOf := by
  intro Z B F ρ σ H xs dxs d Q r p h q
  unfold gLstOf at h
  split at h
  · cases h
    obtain ⟨v, rfl, h1⟩ := p.one
    cases h1 with
    | tup e1 e2 e3 => exact ⟨_, _, rfl, .inr (seqT r.sub e1), fun l hl => q _ _ _ (r.leNew hl) (r.new hl) (.lst upd_same e2 (RpA.mono (r.leNew hl) e3))⟩
  · cases h
    obtain ⟨v, rfl, h1⟩ := p.one
    cases h1 with
    | lst e1 e2 e3 => exact ⟨_, _, rfl, .inl (seqL r.sub e1), fun l hl => q _ _ _ (r.leNew hl) (r.new hl) (.lst upd_same e2 (RpA.mono (r.leNew hl) e3))⟩
  · cases h

/-! ### isinstance -/
def isIntD : D → Bool
  | .bl _ => true
  | .int _ => true
  | _ => false
def isBlD : D → Bool
  | .bl _ => true
  | _ => false
def isStrD : D → Bool
  | .str _ => true
  | _ => false
def isTupD : D → Bool
  | .tup _ => true
  | _ => false
def isLstD : D → Bool
  | .lst _ => true
  | _ => false
/-- what kitB answers of a value's type -/
def KitIs (T : String) (g : D → Bool) : Prop := ∀ d : D, match d with
  | .non => kitB "NoneType" T = some (g d)
  | .bl _ => kitB "bool" T = some (g d)
  | .int _ => kitB "int" T = some (g d)
  | .str _ => kitB "str" T = some (g d)
  | .tup _ => kitB "tuple" T = some (g d)
  | .lst _ => kitB "list" T = some (g d)
  | .dct _ => True
def noDct : D → Bool
  | .dct _ => false
  | _ => true
def gIsi (g : D → Bool) (d : D) : Option D := if noDct d = true then some (.bl (g d)) else none
theorem kit_int : KitIs "int" isIntD := fun d => by
  cases d with
  | non => show kitB "NoneType" "int" = some false; decide +kernel
  | bl b => show kitB "bool" "int" = some true; decide +kernel
  | int b => show kitB "int" "int" = some true; decide +kernel
  | str b => show kitB "str" "int" = some false; decide +kernel
  | tup b => show kitB "tuple" "int" = some false; decide +kernel
  | lst b => show kitB "list" "int" = some false; decide +kernel
  | dct b => trivial
theorem kit_bool : KitIs "bool" isBlD := fun d => by
  cases d with
  | non => show kitB "NoneType" "bool" = some false; decide +kernel
  | bl b => show kitB "bool" "bool" = some true; decide +kernel
  | int b => show kitB "int" "bool" = some false; decide +kernel
  | str b => show kitB "str" "bool" = some false; decide +kernel
  | tup b => show kitB "tuple" "bool" = some false; decide +kernel
  | lst b => show kitB "list" "bool" = some false; decide +kernel
  | dct b => trivial
theorem kit_str : KitIs "str" isStrD := fun d => by
  cases d with
  | non => show kitB "NoneType" "str" = some false; decide +kernel
  | bl b => show kitB "bool" "str" = some false; decide +kernel
  | int b => show kitB "int" "str" = some false; decide +kernel
  | str b => show kitB "str" "str" = some true; decide +kernel
  | tup b => show kitB "tuple" "str" = some false; decide +kernel
  | lst b => show kitB "list" "str" = some false; decide +kernel
  | dct b => trivial
theorem kit_tuple : KitIs "tuple" isTupD := fun d => by
  cases d with
  | non => show kitB "NoneType" "tuple" = some false; decide +kernel
  | bl b => show kitB "bool" "tuple" = some false; decide +kernel
  | int b => show kitB "int" "tuple" = some false; decide +kernel
  | str b => show kitB "str" "tuple" = some false; decide +kernel
  | tup b => show kitB "tuple" "tuple" = some true; decide +kernel
  | lst b => show kitB "list" "tuple" = some false; decide +kernel
  | dct b => trivial
theorem kit_list : KitIs "list" isLstD := fun d => by
  cases d with
  | non => show kitB "NoneType" "list" = some false; decide +kernel
  | bl b => show kitB "bool" "list" = some false; decide +kernel
  | int b => show kitB "int" "list" = some false; decide +kernel
  | str b => show kitB "str" "list" = some false; decide +kernel
  | tup b => show kitB "tuple" "list" = some false; decide +kernel
  | lst b => show kitB "list" "list" = some true; decide +kernel
  | dct b => trivial
theorem de_isi {T : String} {x : Str} {g : D → Bool} {p2 : Pos} (hk : KitIs T g) (ha : DE X st a fa) (hg : Gl X "isinstance") (hm : X.mg "isinstance" = none) (hv : bootBuiltins "isinstance" = some (.builtin "isinstance")) (hg2 : Gl X x) (hm2 : X.mg x = none) (hv2 : bootBuiltins x = some (.type T))
    (hn : x ≠ "__name__" := by decide) (hdb : (x == ("__debug__" : Str)) = false := by decide)
    (hs : starEach [a, .Name x p2] X.env = (false, eval a X.env) :: starEach [.Name x p2] X.env := by rfl) (hs2 : starEach [.Name x p2] X.env = (false, eval (.Name x p2) X.env) :: starEach [] X.env := by rfl)
    (hpl : (backTo pos (starEach [.Name x p2] X.env)).any (·.1) = false := by rfl) :
    DE X st (.Call (.Name "isinstance" p) [a, .Name x p2] [] pos) (e1 (gIsi g) fa) := by
  intro Z B F ρ σ H d ρ' Q r h q
  obtain ⟨y, h1, h3⟩ := e1_inv h
  refine ⟨_, pe_callB call_isi hg hm hv (pa_cons pe_w (pa_cons (pe_bltn (v := .ty T) hg2 hm2 hv2 rfl hn hdb) pa_nil hs2) hs) (by decide) (by decide) hs hpl, ?_⟩
  refine ha _ _ _ _ _ _ _ _ _ r h1 fun F1 H1 u l1 r1 p1 => ?_
  have k := hk y
  unfold gIsi at h3
  split at h3
  · rename_i nd
    cases h3
    have fin : ∀ t : String, TyX X.K H1 u (.type t) → kitB t T = some (g y) → ∃ (x c : V) (t u_1 : Value) (b : Bool), [u, V.ty T] = [x, c] ∧ ClsV c u_1 ∧ TyX X.K H1 x t ∧ PySem.W.kitOne X.K t u_1 = some b ∧ Q (.bl b) H1 :=
      fun t h1 h2 => ⟨u, .ty T, _, _, _, rfl, .ty T, h1, kit_ty h2, q F1 H1 _ l1 r1 (.bl _)⟩
    cases p1 with
    | non => exact fin _ (.base .non) k
    | bl b => exact fin _ (.base (.bl b)) k
    | int b => exact fin _ (.base (.int b)) k
    | str b => exact fin _ (.base (.str b)) k
    | tup e1 e2 e3 => exact fin _ (.base (.tup (r1.sub.tp _ _ e1))) k
    | lst e1 e2 e3 =>
      rcases r1.sub.rd _ _ e1 with q1 | ⟨o, q1⟩
      · exact fin _ (.base (.lst q1)) k
      · exact fin _ (.base (.frz q1)) k
    | dct e1 e2 e3 => cases nd
  · cases h3

/-! ### subscripts -/
def gIx : D → D → Option D
  | .tup ds, .int i => atI ds i
  | .lst ds, .int i => atI ds i
  | _, _ => none
theorem RpA.atI {F : Hp} {vs : List V} {ds : List D} {i : Int} {d : D} (h : RpA F vs ds) (e : atI ds i = some d) : ∃ v, L2.atI vs i = some v ∧ Rp F v d := by
  unfold L2.atI at e ⊢
  rw [h.length]
  cases hj : ixN ds.length i with
  | none =>
    rw [hj] at e
    cases e
  | some j =>
    rw [hj] at e
    exact h.get e
theorem op2_ix : Op2 st K (rIx K) gIx := by
  intro Z B F ρ σ H x y dx dy d Q r p1 p2 h q
  cases dx <;> cases dy <;> simp only [gIx] at h <;> try (cases h)
  · cases p1 with
    | tup e1 e2 e3 =>
      cases p2
      obtain ⟨v, h1, h2⟩ := e3.atI h
      exact .inr (.inl ⟨_, _, _, v, rfl, rfl, seqT r.sub e1, h1, q F H v (Le.refl F) r h2⟩)
  · cases p1 with
    | lst e1 e2 e3 =>
      cases p2
      obtain ⟨v, h1, h2⟩ := e3.atI h
      exact .inl ⟨_, _, _, v, rfl, rfl, seqL r.sub e1, h1, q F H v (Le.refl F) r h2⟩
theorem de_ix (ha : DE X st a fa) (hb : DE X st b fb) (hs : PlainIx b := by exact fun _ _ => rfl) : DE X st (.Subscript a b pos) (e2 gIx fa fb) := by
  intro Z B F ρ σ H d ρ' Q r h q
  obtain ⟨x, ρ1, y, h1, h2, h3⟩ := e2_inv h
  refine ⟨_, pe_ix ix_seq pe_w pe_w hs, ?_⟩
  refine two_of ha hb r h1 h2 fun F1 H1 u v l1 r1 p1 p2 => ?_
  exact op2_ix (K := X.K) _ _ _ _ _ _ _ _ _ _ _ _ r1 p1 p2 h3 fun F2 H2 w l2 r2 p3 => q F2 H2 w (l1.trans l2) r2 p3

/-! ### slices of tuples -/
abbrev Fo := Rho → Option (Option Int × Rho)
def WO (X : Cx) (e : Option Expr) : TO := fun σ H Q => ∃ t, PO X e t ∧ t σ H Q
theorem po_w {X : Cx} {e : Option Expr} : PO X e (WO X e) := ⟨fun pins s σ H Q I ⟨_, h, q⟩ => h.run pins s σ H Q I q⟩
def DO (X : Cx) (st : Option Addr) (e : Option Expr) (f : Fo) : Prop := ∀ Z B F ρ σ H i ρ' (Q : Option Int → Hp → Prop), Rs st Z B F ρ σ H → f ρ = some (i, ρ') → (∀ F' H', Le F F' → Rs st Z B F' ρ' σ H' → Q i H') → WO X e σ H Q
def oNone : Fo := fun ρ => some (none, ρ)
def oSome (fa : Fe) : Fo := fun ρ => match fa ρ with
  | some (.int i, ρ1) => some (some i, ρ1)
  | _ => none
theorem do_none : DO X st none oNone := by
  intro Z B F ρ σ H i ρ' Q r h q
  cases h
  exact ⟨_, po_none, q F H (Le.refl F) r⟩
theorem do_some (ha : DE X st a fa) : DO X st (some a) (oSome fa) := by
  intro Z B F ρ σ H i ρ' Q r h q
  unfold oSome at h
  split at h
  · rename_i j ρ1 h1
    cases h
    refine ⟨_, po_some pe_w, ?_⟩
    refine ha _ _ _ _ _ _ _ _ _ r h1 fun F1 H1 u l1 r1 p1 => ?_
    cases p1
    exact ⟨_, rfl, q F1 H1 l1 r1⟩
  · cases h
def cutD (xs : List D) (lo hi : Option Int) : List D := (xs.drop (HT.sIx xs.length 0 lo)).take (HT.sIx xs.length xs.length hi - HT.sIx xs.length 0 lo)
theorem RpA.cut {F : Hp} {vs : List V} {ds : List D} (h : RpA F vs ds) (lo hi : Option Int) : RpA F (cutV vs lo hi) (cutD ds lo hi) := by
  unfold cutV cutD
  rw [h.length]
  exact RpA.take _ (RpA.drop _ h)
def eSl (fa : Fe) (fl fh : Fo) : Fe := fun ρ => match fa ρ with
  | some (.tup ds, ρ1) => match fl ρ1 with
    | some (lo, ρ2) => match fh ρ2 with
      | some (hi, ρ3) => some (.tup (cutD ds lo hi), ρ3)
      | none => none
    | none => none
  | _ => none
theorem de_slice {lo hi : Option Expr} {fl fh : Fo} {p2 : Pos} (ha : DE X st a fa) (hl : DO X st lo fl) (hh : DO X st hi fh) : DE X st (.Subscript a (.Slice lo hi none p2) pos) (eSl fa fl fh) := by
  intro Z B F ρ σ H d ρ' Q r h q
  refine ⟨_, pe_slice sl_tupA pe_w po_w po_w, ?_⟩
  unfold eSl at h
  split at h
  · rename_i ds ρ1 h1
    split at h
    · rename_i lo' ρ2 h2
      split at h
      · rename_i hi' ρ3 h3
        cases h
        refine ha _ _ _ _ _ _ _ _ _ r h1 fun F1 H1 u l1 r1 p1 => ?_
        refine hl _ _ _ _ _ _ _ _ _ r1 h2 fun F2 H2 l2 r2 => ?_
        refine hh _ _ _ _ _ _ _ _ _ r2 h3 fun F3 H3 l3 r3 => ?_
        have p3 := Rp.mono (l2.trans l3) p1
        cases p3 with
        | @tup a vs _ e1 e2 e3 =>
          refine ⟨a, vs, rfl, seqT r3.sub e1, fun hw => ?_, fun hw p hp => ?_⟩
          · have e4 : cutD ds lo' hi' = ds := by
              unfold cutD
              rw [← e3.length, hw.1, hw.2, List.drop_zero, Nat.sub_zero, e3.length, List.take_length]
            rw [e4] at q
            exact q F3 H3 _ ((l1.trans l2).trans l3) r3 (.tup e1 e2 e3)
          · have l := r3.leNew (o := .tup (cutV vs lo' hi')) hp
            exact q _ _ _ (((l1.trans l2).trans l3).trans l) (r3.new hp) (.tup upd_same (Nat.le_trans (cutV_length vs lo' hi') e2) (RpA.mono l (e3.cut lo' hi')))
      · cases h
    · cases h
  · cases h
end
end Kx
set_option Elab.async false
set_option linter.all false
set_option maxRecDepth 100000
set_option maxHeartbeats 4000000
/-! promises of defs; statements; loops -/
namespace Kx
open PySem PySem.Spec PyProof.Rows L2

/-! ### a def that changes nothing it is given -/
def spD (n : Nat) (f : List D → Option D) : Sp := fun vs H Q _ => ∃ F ds d, ds.length = n ∧ Sub F H ∧ RpA F vs ds ∧ f ds = some d ∧
  ∀ F' H' v, Le F F' → Sub F' H' → (∀ a o, H a = some o → H' a = some o) → (∀ a, F a = none → (∃ o, H a = some o) → (∀ xs, H a ≠ some (.tup xs)) → F' a = none) → Rp F' v d → Q v H'
/-- .. and one that is given the stream first -/
def spS (n : Nat) (f : Strm → List D → Option (D × Strm)) : Sp := fun vs H Q _ => ∃ F a b us ds d S S', vs = .ref a :: us ∧ ds.length = n ∧ Sub F H ∧ F a = none ∧ H a = some (.lst [.ref b, .int S.cell, .int S.k]) ∧ Rp F (.ref b) (.lst (S.scr.map D.int)) ∧ RpA F us ds ∧ f S ds = some (d, S') ∧
  ∀ F' H' v b', Le F F' → Sub F' H' → (∀ c o, H c = some o → c ≠ a → H' c = some o) → (∀ c, F c = none → (∃ o, H c = some o) → (∀ xs, H c ≠ some (.tup xs)) → F' c = none) → H' a = some (.lst [.ref b', .int S'.cell, .int S'.k]) → Rp F' (.ref b') (.lst (S'.scr.map D.int)) → Rp F' v d → Q v H'
theorem spD_len {n : Nat} {f : List D → Option D} {ps : List Str} (hn : ps.length = n) : ∀ vs H Q E, spD n f vs H Q E → vs.length = ps.length := by
  intro vs H Q E ⟨F, ds, d, h1, h2, h3, _⟩
  rw [h3.length, h1, hn]
theorem spS_len {n : Nat} {f : Strm → List D → Option (D × Strm)} {ps : List Str} (hn : ps.length = n + 1) : ∀ vs H Q E, spS n f vs H Q E → vs.length = ps.length := by
  intro vs H Q E ⟨F, a, b, us, ds, d, S, S', h0, h1, h2, h3, h4, h5, h6, _⟩
  rw [h0, List.length_cons, h6.length, h1, hn]

section
variable {X : Cx} {st : Option Addr} {K : PySem.W.Frag} {e a b c : Expr} {es : List Expr} {pos p : Pos} {fa fb : Fe}

/-- behind a call that keeps what is tracked, but the stream -/
theorem Rs.behind {Z : Addr → Prop} {B F F' H H' : Hp} {ρ : Rho} {σ : L2.St} (r : Rs st Z B F ρ σ H) (l : Le F F') (s : Sub F' H') (k : ∀ c o, H c = some o → st ≠ some c → H' c = some o) (n : ∀ c, F c = none → (∃ o, H c = some o) → (∀ xs, H c ≠ some (.tup xs)) → F' c = none)
    (hs : ∀ a, st = some a → ∃ o, H' a = some o ∧ ∀ xs, o ≠ .tup xs) (ρ' : Rho) (hl : ρ'.length = ρ.length)
    (hρ : ∀ (i : Nat) (t : Sl), ρ'[i]? = some (some t) → (ρ[i]? = some (some t) ∧ ∀ S, t ≠ .st S) ∨ ∃ S v, t = .st S ∧ σ[i]? = some (some v) ∧ RpS st F' H' v (.st S)) : Rs st Z B F' ρ' σ H' := by
  refine ⟨hl.trans r.len, fun c o e => k c o (r.bh c o e) fun z => ?_, s, fun c z => ?_, r.zb, fun i t e => ?_, fun i t c e1 e2 e3 => ?_, fun i j t u c e1 e2 e3 e4 e5 e6 => ?_, fun c e => ?_, r.znt, fun c e xs z => ?_⟩
  · have q := (r.stb c z).1
    rw [e] at q
    cases q
  · obtain ⟨o, q⟩ := r.zb c z
    refine n c (r.zf c z) ⟨o, r.bh c o q⟩ fun xs w => r.znt c z xs ?_
    rw [r.bh c o q] at w
    rw [q, w]
  · rcases hρ i t e with ⟨e1, ns⟩ | ⟨S, v, e1, e2, e3⟩
    · obtain ⟨v, e2, q⟩ := r.slot i t e1
      refine ⟨v, e2, q.keep l (fun c e3 e4 => ?_) (fun c e3 e4 => ?_) fun S c e3 _ _ => absurd e3 (ns S)⟩
      · obtain ⟨c', u, e5, e6, e7, e8⟩ := q.at e4
        rw [e3] at e5
        cases e5
        refine n c e6 ⟨u, e7⟩ fun xs w => ?_
        rw [e7] at w
        cases w
        exact e8
      · obtain ⟨c', u, e5, e6, e7, _⟩ := q.at e4
        have e8 := (r.own i t c e1 e4 (e3 ▸ e2)).2
        rw [e3] at e5
        cases e5
        rw [e7]
        exact k c u e7 e8
    · rw [e1]
      exact ⟨v, e2, e3⟩
  · rcases hρ i t e1 with ⟨e4, _⟩ | ⟨S, v, e4, _⟩
    · exact r.own i t c e4 e2 e3
    · rw [e4] at e2
      cases e2
  · rcases hρ i t e1 with ⟨q1, _⟩ | ⟨S, v, q1, _⟩
    · rcases hρ j u e2 with ⟨q2, _⟩ | ⟨S, v, q2, _⟩
      · exact r.sep i j t u c q1 q2 e3 e4 e5 e6
      · rw [q2] at e4
        cases e4
    · rw [q1] at e3
      cases e3
  · obtain ⟨q1, q2, q3⟩ := r.stb c e
    obtain ⟨o, w, _⟩ := hs c e
    exact ⟨q1, n c q2 q3 (r.snt c e), o, w⟩
  · obtain ⟨o, w, nt⟩ := hs c e
    rw [w] at z
    exact nt xs (Option.some.inj z)
/-- f(..) of a def that changes nothing -/
def eCall (n : Nat) (f : List D → Option D) (fa : Fa) : Fe := fun ρ => match fa ρ with
  | some (ds, ρ1) => if ds.length = n then match f ds with
      | some d => some (d, ρ1)
      | none => none
    else none
  | none => none
theorem de_call {k n : Nat} {f : Addr} {fd : FuncData} {ps : List Str} {x : Str} {fn : List D → Option D} {fs : Fa} (G : FnOk X.prog X.w X.K X.mg X.base CX0 k f fd ps (spD n fn)) (hr : Room k X.A) (hg : Gl X x) (hm : X.mg x = some (.ref f)) (hk : PySem.W.keepIn X.K (.ref f) = true) (hb : Binds X.K fd ps [])
    (ha : DA X st (e :: es) fs) (hdb : (x == ("__debug__" : Str)) = false := by decide) (he : starEach (e :: es) X.env = (false, eval e X.env) :: starEach es X.env := by rfl) (hpl : (backTo pos (starEach es X.env)).any (·.1) = false := by rfl) :
    DE X st (.Call (.Name x p) (e :: es) [] pos) (eCall n fn fs) := by
  intro Z B F ρ σ H d ρ' Q r h q
  unfold eCall at h
  split at h
  · rename_i ds ρ1 h1
    split at h
    · rename_i hn
      split at h
      · rename_i d' h2
        cases h
        refine ⟨_, pe_call G hr hg hm hk hb .nil pass0 pa_w hdb he hpl, ?_⟩
        refine ha _ _ _ _ _ _ _ _ _ r h1 fun F1 H1 vs l1 r1 p1 => ?_
        refine ⟨F1, ds, d, hn, r1.sub, by rw [List.append_nil]; exact p1, h2, fun F' H' v l s k n' pv => ?_⟩
        refine q F' H' v (l1.trans l) (r1.behind l s (fun c o e _ => k c o e) n' (fun c e => ?_) ρ' rfl fun i t e => ?_) pv
        · obtain ⟨_, _, o, e2⟩ := r1.stb c e
          exact ⟨o, k c o e2, fun xs z => r1.snt c e xs (by rw [e2, z])⟩
        · cases t with
          | st S =>
            obtain ⟨v, e1, q1⟩ := r1.slot i _ e
            refine .inr ⟨S, v, rfl, e1, ?_⟩
            obtain ⟨c, b, e2, e3, e4, e5⟩ := q1
            exact ⟨c, b, e2, e3, k _ _ e4, Rp.mono l e5⟩
          | fz d => exact .inl ⟨e, fun S z => nomatch z⟩
          | ol d => exact .inl ⟨e, fun S z => nomatch z⟩
          | od d => exact .inl ⟨e, fun S z => nomatch z⟩
      · cases h
    · cases h
  · cases h
/-- f(s, ..) of a def that is given the stream, which stands in slot i -/
def setSt (S : Strm) (ρ : Rho) : Rho := ρ.map fun
  | some (.st _) => some (.st S)
  | o => o
def eCallS (i n : Nat) (f : Strm → List D → Option (D × Strm)) (fa : Fa) : Fe := fun ρ => match ρ[i]? with
  | some (some (.st _)) => match fa ρ with
    | some (ds, ρ1) => match ρ1[i]? with
      | some (some (.st S)) => if ds.length = n then match f S ds with
          | some (d, S') => some (d, setSt S' ρ1)
          | none => none
        else none
      | _ => none
    | none => none
  | _ => none
theorem setSt_get {S : Strm} {ρ : Rho} {i : Nat} {t : Sl} (h : (setSt S ρ)[i]? = some (some t)) : (ρ[i]? = some (some t) ∧ ∀ S, t ≠ .st S) ∨ (t = .st S ∧ ∃ S', ρ[i]? = some (some (.st S'))) := by
  unfold setSt at h
  rw [List.getElem?_map] at h
  cases e : ρ[i]? with
  | none =>
    rw [e] at h
    cases h
  | some o =>
    rw [e] at h
    cases o with
    | none => cases h
    | some s =>
      cases s with
      | fz d => 
        cases h
        exact .inl ⟨rfl, fun S z => nomatch z⟩
      | ol d => 
        cases h
        exact .inl ⟨rfl, fun S z => nomatch z⟩
      | od d => 
        cases h
        exact .inl ⟨rfl, fun S z => nomatch z⟩
      | st S' => 
        cases h
        exact .inr ⟨rfl, S', rfl⟩
/-- the slot of the stream, read -/
theorem stream_at {Z : Addr → Prop} {B F H : Hp} {ρ : Rho} {σ : L2.St} (r : Rs st Z B F ρ σ H) {i : Nat} {S : Strm} (h : ρ[i]? = some (some (.st S))) :
    ∃ a b, st = some a ∧ σ[i]? = some (some (.ref a)) ∧ F a = none ∧ H a = some (.lst [.ref b, .int S.cell, .int S.k]) ∧ Rp F (.ref b) (.lst (S.scr.map D.int)) := by
  obtain ⟨v, e1, a, b, e2, e3, e4, e5⟩ := r.slot i _ h
  subst e3
  exact ⟨a, b, e2, e1, (r.stb a e2).2.1, e4, e5⟩
/-- the arguments do not touch the stream's place: it is read behind them -/
theorem de_callS {i k n : Nat} {f : Addr} {fd : FuncData} {ps : List Str} {x y : Str} {py : Pos} {fn : Strm → List D → Option (D × Strm)} {fs : Fa} (G : FnOk X.prog X.w X.K X.mg X.base CX0 k f fd ps (spS n fn)) (hr : Room k X.A) (hg : Gl X x) (hm : X.mg x = some (.ref f)) (hk : PySem.W.keepIn X.K (.ref f) = true) (hb : Binds X.K fd ps [])
    (ha : DA X st es fs) (hN : X.N[i]? = some y := by rfl) (hv : Vis X.env.scope y := by first | exact Or.inl rfl | exact Or.inr (Or.inl rfl) | exact Or.inr (Or.inr rfl)) (hd : (y == ("__debug__" : Str)) = false := by decide) (hcd : (y == ("__classdict__" : Str)) = false := by decide)
    (hdb : (x == ("__debug__" : Str)) = false := by decide) (he : starEach (.Name y py :: es) X.env = (false, eval (.Name y py) X.env) :: starEach es X.env := by rfl) (hpl : (backTo pos (starEach es X.env)).any (·.1) = false := by rfl) :
    DE X st (.Call (.Name x p) (.Name y py :: es) [] pos) (eCallS i n fn fs) := by
  intro Z B F ρ σ H d ρ' Q r h q
  unfold eCallS at h
  split at h
  · rename_i S0 hS0
    obtain ⟨v0, hv0, _⟩ := r.slot i _ hS0
    split at h
    · rename_i ds ρ1 h1
      split at h
      · rename_i S hS
        split at h
        · rename_i hn
          split at h
          · rename_i d' S' h2
            cases h
            refine ⟨_, pe_call G hr hg hm hk hb .nil pass0 (pa_cons (pe_var (i := i) hN hv hd hcd) pa_w he) hdb he hpl, v0, hv0, ?_⟩
            refine ha _ _ _ _ _ _ _ _ _ r h1 fun F1 H1 vs l1 r1 p1 => ?_
            obtain ⟨a, b, s0, s1, s2, s3, s4⟩ := stream_at r1 hS
            rw [hv0] at s1
            cases s1
            refine ⟨F1, a, b, vs, ds, d, S, S', by rw [List.append_nil], hn, r1.sub, s2, s3, s4, p1, h2, fun F' H' v b' l s k n' e1 e2 pv => ?_⟩
            refine q F' H' v (l1.trans l) (r1.behind l s (fun c o e ne => k c o e fun z => ne (by rw [z, s0])) n' (fun c e => ?_) (setSt S' ρ1) (by unfold setSt; rw [List.length_map]) fun j t e => ?_) pv
            · rw [s0] at e
              cases e
              exact ⟨_, e1, fun xs z => nomatch z⟩
            · rcases setSt_get e with e3 | ⟨rfl, S2, e4⟩
              · exact .inl e3
              · obtain ⟨a2, b2, t0, t1, _⟩ := stream_at r1 e4
                rw [s0] at t0
                cases t0
                exact .inr ⟨S', _, rfl, t1, a, b', s0, rfl, e1, e2⟩
          · cases h
        · cases h
      · cases h
    · cases h
  · cases h
end
end Kx
set_option Elab.async false
set_option linter.all false
set_option maxRecDepth 100000
set_option maxHeartbeats 4000000
/-! targets, statements, loops, bodies of defs -/
namespace Kx
open PySem PySem.Spec PyProof.Rows L2

section
variable {X : Cx} {st : Option Addr} {K : PySem.W.Frag} {e a b c : Expr} {es : List Expr} {pos p : Pos} {fa fb : Fe}

/-! ### targets -/
/-- what stands in a slot is forgotten, or replaced by data -/
theorem Rs.store {Z : Addr → Prop} {B F H : Hp} {ρ : Rho} {σ : L2.St} (r : Rs st Z B F ρ σ H) (i : Nat) {v : V} {d : D} (h : Rp F v d) : Rs st Z B F (ρ.set i (some (.fz d))) (σ.set i (some v)) H where
  len := by rw [List.length_set, List.length_set]; exact r.len
  bh := r.bh
  sub := r.sub
  zf := r.zf
  zb := r.zb
  slot := fun j t e => by
    rcases get_set e with ⟨rfl, e2, hl⟩ | ⟨ne, e2⟩
    · cases e2
      exact ⟨v, List.getElem?_set_self (by rw [← r.len]; exact hl), h⟩
    · obtain ⟨w, e3, q⟩ := r.slot j t e2
      exact ⟨w, by rw [List.getElem?_set_ne (Ne.symm ne)]; exact e3, q⟩
  own := fun j t b e e2 e3 => by
    rcases get_set e with ⟨rfl, e4, _⟩ | ⟨ne, e4⟩
    · cases e4
      cases e2
    · rw [List.getElem?_set_ne (Ne.symm ne)] at e3
      exact r.own j t b e4 e2 e3
  sep := fun j k t t' b e e' o o' q q' => by
    rcases get_set e with ⟨rfl, e4, _⟩ | ⟨ne, e4⟩
    · cases e4
      cases o
    · rcases get_set e' with ⟨rfl, e5, _⟩ | ⟨ne', e5⟩
      · cases e5
        cases o'
      · rw [List.getElem?_set_ne (Ne.symm ne)] at q
        rw [List.getElem?_set_ne (Ne.symm ne')] at q'
        exact r.sep j k t t' b e4 e5 o o' q q'
  stb := r.stb
  znt := r.znt
  snt := r.snt
/-- slots forgotten -/
def wipeR (ρ : Rho) : List Nat → Rho
  | [] => ρ
  | v :: vs => (wipeR ρ vs).set v none
theorem Rs.drop {Z : Addr → Prop} {B F H : Hp} {ρ : Rho} {σ : L2.St} (r : Rs st Z B F ρ σ H) (i : Nat) : Rs st Z B F (ρ.set i none) σ H where
  len := by rw [List.length_set]; exact r.len
  bh := r.bh
  sub := r.sub
  zf := r.zf
  zb := r.zb
  slot := fun j t e => by
    rcases get_set e with ⟨rfl, e2, hl⟩ | ⟨ne, e2⟩
    · cases e2
    · exact r.slot j t e2
  own := fun j t b e e2 e3 => by
    rcases get_set e with ⟨rfl, e4, _⟩ | ⟨ne, e4⟩
    · cases e4
    · exact r.own j t b e4 e2 e3
  sep := fun j k t t' b e e' o o' q q' => by
    rcases get_set e with ⟨rfl, e4, _⟩ | ⟨ne, e4⟩
    · cases e4
    · rcases get_set e' with ⟨rfl, e5, _⟩ | ⟨ne', e5⟩
      · cases e5
      · exact r.sep j k t t' b e4 e5 o o' q q'
  stb := r.stb
  znt := r.znt
  snt := r.snt
theorem Rs.wipe {Z : Addr → Prop} {B F H : Hp} {ρ : Rho} {σ : L2.St} (r : Rs st Z B F ρ σ H) : ∀ vs : List Nat, Rs st Z B F (wipeR ρ vs) σ H
  | [] => r
  | v :: vs => (r.wipe vs).drop v
theorem Rs.wipe2 {Z : Addr → Prop} {B F H : Hp} {ρ : Rho} {σ : L2.St} (r : Rs st Z B F ρ σ H) : ∀ vs : List Nat, Rs st Z B F (wipeR ρ vs) (L2.wipe σ vs) H
  | [] => r
  | v :: vs => by
    have q := r.wipe2 vs
    show Rs st Z B F ((wipeR ρ vs).set v none) ((L2.wipe σ vs).set v none) H
    have q2 := q.drop v
    refine ⟨by rw [List.length_set, List.length_set]; exact q.len, q2.bh, q2.sub, q2.zf, q2.zb, fun j t e => ?_, fun j t c e e2 e3 => ?_, fun j k t t' c e e' o o' s s' => ?_, q2.stb, q2.znt, q2.snt⟩
    · rcases get_set e with ⟨rfl, e4, _⟩ | ⟨ne, e4⟩
      · cases e4
      · rw [List.getElem?_set_ne (Ne.symm ne)]
        exact q.slot j t e4
    · rcases get_set e with ⟨rfl, e4, _⟩ | ⟨ne, e4⟩
      · cases e4
      · rw [List.getElem?_set_ne (Ne.symm ne)] at e3
        exact q.own j t c e4 e2 e3
    · rcases get_set e with ⟨rfl, e4, _⟩ | ⟨ne, e4⟩
      · cases e4
      · rcases get_set e' with ⟨rfl, e5, _⟩ | ⟨ne', e5⟩
        · cases e5
        · rw [List.getElem?_set_ne (Ne.symm ne)] at s
          rw [List.getElem?_set_ne (Ne.symm ne')] at s'
          exact q.sep j k t t' c e4 e5 o o' s s'
/-- the block's slots back to the def's -/
theorem Rs.unwipe {Z : Addr → Prop} {B F H : Hp} {ρ : Rho} {σ : L2.St} {vs : List Nat} (r : Rs st Z B F (wipeR ρ vs) (L2.wipe σ vs) H) : Rs st Z B F (wipeR ρ vs) σ H := by
  have g : ∀ (j : Nat) (w : V), (L2.wipe σ vs)[j]? = some (some w) → σ[j]? = some (some w) := fun j w h => (wipe_some h).1
  refine ⟨by rw [r.len, wipe_length], r.bh, r.sub, r.zf, r.zb, fun j t e => ?_, fun j t c e e2 e3 => ?_, fun j k t t' c e e' o o' s s' => ?_, r.stb, r.znt, r.snt⟩
  · obtain ⟨v, e1, q⟩ := r.slot j t e
    exact ⟨v, g j v e1, q⟩
  · obtain ⟨v, e1, q⟩ := r.slot j t e
    have e4 := g j v e1
    rw [e3] at e4
    cases e4
    exact r.own j t c e e2 e1
  · obtain ⟨v, e1, q⟩ := r.slot j t e
    have e4 := g j v e1
    rw [s] at e4
    cases e4
    obtain ⟨v2, e5, q2⟩ := r.slot k t' e'
    have e6 := g k v2 e5
    rw [s'] at e6
    cases e6
    exact r.sep j k t t' c e e' o o' e1 e5

def gSet (i : Nat) : Fg := fun d ρ => some (ρ.set i (some (.fz d)))
theorem dg_name (i : Nat) {x : Str} (hN : X.N.Nodup) (hi : X.N[i]? = some x := by rfl) (hx : Loc X.env.scope x := by first | exact Or.inl rfl | exact Or.inr rfl) (hf : X.fn x = true ∨ X.env.scope.names.lookup x = some .local := by first | exact .inl rfl | exact .inr rfl) : DG X st (.Name x pos) (gSet i) := by
  intro Z B F ρ σ H v d ρ' Q r pv h q
  cases h
  exact ⟨_, pg_name hN hi hx hf, q F _ H (Le.refl F) (r.store i pv)⟩
def gsNil : Fgs := fun ds ρ => match ds with
  | [] => some ρ
  | _ => none
def gsCons (g : Fg) (gs : Fgs) : Fgs := fun ds ρ => match ds with
  | d :: ds => match g d ρ with
    | some ρ1 => gs ds ρ1
    | none => none
  | [] => none
theorem dgs_nil : DGs X st [] gsNil := by
  intro Z B F ρ σ H vs ds ρ' Q r pv h q
  unfold gsNil at h
  split at h
  · cases h
    cases pv
    exact ⟨_, pgs_nil, rfl, q F _ H (Le.refl F) r⟩
  · cases h
theorem dgs_cons {ts : List Expr} {t : Expr} {g : Fg} {gs : Fgs} (h1 : DG X st t g) (h2 : DGs X st ts gs)
    (hs : (assignEach (t :: ts) X.env).map (·.2) = assign t X.env :: (assignEach ts X.env).map (·.2) := by rfl) : DGs X st (t :: ts) (gsCons g gs) := by
  intro Z B F ρ σ H vs ds ρ' Q r pv h q
  unfold gsCons at h
  split at h
  · rename_i d ds
    split at h
    · rename_i ρ1 e1
      cases pv with
      | cons p1 p2 =>
        refine ⟨_, pgs_cons pg_w pgs_w hs, _, _, rfl, ?_⟩
        refine h1 _ _ _ _ _ _ _ _ _ _ r p1 e1 fun F1 σ1 H1 l1 r1 => ?_
        exact h2 _ _ _ _ _ _ _ _ _ _ r1 (RpA.mono l1 p2) h fun F2 σ2 H2 l2 r2 => q F2 σ2 H2 (l1.trans l2) r2
    · cases h
  · cases h
def gTupT (n : Nat) (gs : Fgs) : Fg := fun d ρ => match d with
  | .tup ds => if ds.length = n then gs ds ρ else none
  | _ => none
theorem dg_tup {ts : List Expr} {k n : Nat} {gs : Fgs} (hc : X.calm = true) (h1 : DGs X st ts gs) (hn : (assignEach ts X.env).length = n := by rfl) (hst : (assignEach ts X.env).findIdx? (·.1) = none := by rfl) : DG X st (.Tuple ts k pos) (gTupT n gs) := by
  intro Z B F ρ σ H v d ρ' Q r pv h q
  unfold gTupT at h
  split at h
  · rename_i ds
    split at h
    · rename_i hl
      cases pv with
      | tup e1 e2 e3 =>
        refine ⟨_, pg_tup hc pgs_w hn hst, _, _, rfl, seqT r.sub e1, by rw [e3.length, hl], ?_⟩
        exact h1 _ _ _ _ _ _ _ _ _ _ r e3 h q
    · cases h
  · cases h

/-! ### blocks and small statements -/
variable {s : Stmt} {ss : List Stmt}
def sNil : Fs := fun ρ => some (.nx ρ)
def sCons (f g : Fs) : Fs := fun ρ => match f ρ with
  | some (.nx ρ1) => g ρ1
  | some (.rt d ρ1) => some (.rt d ρ1)
  | none => none
theorem dss_nil : DSs X st [] sNil := by
  intro Z B F ρ σ H r E R h q1 q2
  cases h
  exact ⟨_, pss_nil, q1 ρ rfl F σ H (Le.refl F) R⟩
theorem dss_cons {f g : Fs} (h1 : DS X st s f) (h2 : DSs X st ss g) : DSs X st (s :: ss) (sCons f g) := by
  intro Z B F ρ σ H r E R h q1 q2
  refine ⟨_, pss_cons ps_w pss_w, ?_⟩
  unfold sCons at h
  split at h
  · rename_i ρ1 e1
    refine h1 _ _ _ _ _ _ _ _ R e1 (fun ρ' eq F1 σ1 H1 l1 R1 => ?_) fun d ρ' eq => nomatch eq
    cases eq
    exact h2 _ _ _ _ _ _ _ _ R1 h (fun ρ' eq F2 σ2 H2 l2 R2 => q1 ρ' eq F2 σ2 H2 (l1.trans l2) R2) fun d ρ' eq F2 σ2 H2 v l2 R2 p => q2 d ρ' eq F2 σ2 H2 v (l1.trans l2) R2 p
  · rename_i d ρ1 e1
    cases h
    exact h1 _ _ _ _ _ _ _ _ R e1 (fun ρ' eq => nomatch eq) fun d ρ' eq F1 σ1 H1 v l1 R1 p => q2 d ρ' eq F1 σ1 H1 v l1 R1 p
  · cases h
def sExpr (fa : Fe) : Fs := fun ρ => match fa ρ with
  | some (_, ρ1) => some (.nx ρ1)
  | none => none
theorem ds_expr (ha : DE X st a fa) (hs : swapsWith a none pos.line X.env = pure false := by rfl) : DS X st (.Expr a pos) (sExpr fa) := by
  intro Z B F ρ σ H r E R h q1 q2
  unfold sExpr at h
  split at h
  · rename_i d ρ1 e1
    cases h
    refine ⟨_, ps_expr pe_w hs, ?_⟩
    exact ha _ _ _ _ _ _ _ _ _ R e1 fun F1 H1 v l1 R1 p => q1 _ rfl F1 σ H1 l1 R1
  · cases h
def sRet (fa : Fe) : Fs := fun ρ => match fa ρ with
  | some (d, ρ1) => some (.rt d ρ1)
  | none => none
theorem ds_ret (ha : DE X st a fa) : DS X st (.Return (some a) pos) (sRet fa) := by
  intro Z B F ρ σ H r E R h q1 q2
  unfold sRet at h
  split at h
  · rename_i d ρ1 e1
    cases h
    refine ⟨_, ps_ret pe_w, ?_⟩
    exact ha _ _ _ _ _ _ _ _ _ R e1 fun F1 H1 v l1 R1 p => q2 _ _ rfl F1 σ H1 v l1 R1 p
  · cases h
def sIf (ft : Ft) (f g : Fs) : Fs := fun ρ => match ft ρ with
  | some (true, ρ1) => f ρ1
  | some (false, ρ1) => g ρ1
  | none => none
theorem ds_if {ft : Ft} {f g : Fs} {xs ys : List Stmt} (hc : DT X st c ft) (h1 : DSs X st xs f) (h2 : DSs X st ys g) : DS X st (.If c xs ys pos) (sIf ft f g) := by
  intro Z B F ρ σ H r E R h q1 q2
  refine ⟨_, ps_if pt_w pss_w pss_w, ?_⟩
  unfold sIf at h
  split at h
  · rename_i ρ1 e1
    refine hc _ _ _ _ _ _ _ _ _ R e1 fun F1 H1 l1 R1 => ?_
    rw [if_pos rfl]
    exact h1 _ _ _ _ _ _ _ _ R1 h (fun ρ' eq F2 σ2 H2 l2 R2 => q1 ρ' eq F2 σ2 H2 (l1.trans l2) R2) fun d ρ' eq F2 σ2 H2 v l2 R2 p => q2 d ρ' eq F2 σ2 H2 v (l1.trans l2) R2 p
  · rename_i ρ1 e1
    refine hc _ _ _ _ _ _ _ _ _ R e1 fun F1 H1 l1 R1 => ?_
    rw [if_neg Bool.false_ne_true]
    exact h2 _ _ _ _ _ _ _ _ R1 h (fun ρ' eq F2 σ2 H2 l2 R2 => q1 ρ' eq F2 σ2 H2 (l1.trans l2) R2) fun d ρ' eq F2 σ2 H2 v l2 R2 p => q2 d ρ' eq F2 σ2 H2 v (l1.trans l2) R2 p
  · cases h
/-- a statement that no way comes to -/
def sNever : Fs := fun _ => none
theorem ds_never : DS X st s sNever := by
  intro Z B F ρ σ H r E R h q1 q2
  cases h
/-- target = value -/
def sAsg (fa : Fe) (g : Fg) : Fs := fun ρ => match fa ρ with
  | some (d, ρ1) => match g d ρ1 with
    | some ρ2 => some (.nx ρ2)
    | none => none
  | none => none
theorem ds_asg {tg : Expr} {g : Fg} (ha : DE X st a fa) (hg : DG X st tg g) (hs : swapsWithSole [tg] a pos.line X.env = pure false := by rfl) (hw : swappedStores [tg] a X.env = pure none := by rfl)
    (h1 : (assignEach [tg] X.env).map (·.2) = [assign tg X.env] := by rfl) : DS X st (.Assign [tg] a pos) (sAsg fa g) := by
  intro Z B F ρ σ H r E R h q1 q2
  unfold sAsg at h
  split at h
  · rename_i d ρ1 e1
    split at h
    · rename_i ρ2 e2
      cases h
      refine ⟨_, ps_asg pe_w pg_w hs hw h1, ?_⟩
      refine ha _ _ _ _ _ _ _ _ _ R e1 fun F1 H1 v l1 R1 p => ?_
      exact hg _ _ _ _ _ _ _ _ _ _ R1 p e2 fun F2 σ2 H2 l2 R2 => q1 _ rfl F2 σ2 H2 (l1.trans l2) R2
    · cases h
  · cases h
def sSet (i : Nat) (fa : Fe) : Fs := fun ρ => match fa ρ with
  | some (d, ρ1) => some (.nx (ρ1.set i (some (.fz d))))
  | none => none
theorem ds_set (i : Nat) {x : Str} {pos' : Pos} (hN : X.N.Nodup) (ha : DE X st a fa) (hi : X.N[i]? = some x := by rfl) (hx : Loc X.env.scope x := by first | exact Or.inl rfl | exact Or.inr rfl)
    (hs : swapsWith a (some (.Name x pos')) pos.line X.env = pure false := by rfl) (hf : X.fn x = true ∨ X.env.scope.names.lookup x = some .local := by first | exact .inl rfl | exact .inr rfl) : DS X st (.Assign [.Name x pos'] a pos) (sSet i fa) := by
  intro Z B F ρ σ H r E R h q1 q2
  unfold sSet at h
  split at h
  · rename_i d ρ1 e1
    cases h
    refine ⟨_, ps_set hN hi hx pe_w hs hf, ?_⟩
    exact ha _ _ _ _ _ _ _ _ _ R e1 fun F1 H1 v l1 R1 p => q1 _ rfl F1 _ H1 l1 (R1.store i p)
  · cases h
end
end Kx
set_option Elab.async false
set_option linter.all false
set_option maxRecDepth 100000
set_option maxHeartbeats 4000000
/-! what a slot owns: lists, dicts; the stream's cells -/
namespace Kx
open PySem PySem.Spec PyProof.Rows L2

section
variable {X : Cx} {st : Option Addr} {K : PySem.W.Frag} {e a b c : Expr} {es : List Expr} {pos p : Pos} {fa fb : Fe}

/-! ### a new object that a slot owns -/
theorem Rs.ownNew {Z : Addr → Prop} {B F H : Hp} {ρ : Rho} {σ : L2.St} (r : Rs st Z B F ρ σ H) (i : Nat) {q : Addr} {o : HO} {s : Sl} (h : H q = none) (hs : RpS st F (upd H q o) (.ref q) s) : Rs st Z B F (ρ.set i (some s)) (σ.set i (some (.ref q))) (upd H q o) := by
  have hf := r.sub.none h
  have hb := r.bn h
  have slotQ : ∀ {j : Nat} {t : Sl} {w : V}, σ[j]? = some (some w) → RpS st F H w t → isO t = true → w ≠ .ref q := fun {j t w} e1 q1 o e => by
    obtain ⟨c, u, e2, e3, e4, _⟩ := q1.at o
    rw [e] at e2
    cases e2
    rw [h] at e4
    cases e4
  refine ⟨by rw [List.length_set, List.length_set]; exact r.len, fun c u e => ?_, ⟨fun c u e => ?_, fun c u e => ?_⟩, r.zf, r.zb, fun j t e => ?_, fun j t c e e2 e3 => ?_, fun j k t t' c e e' o o' q1 q2 => ?_, fun c e => ?_, r.znt, fun c e xs z => ?_⟩
  · have q1 := r.bh c u e
    rw [upd_ne (ne_of_none q1 h)]
    exact q1
  · have ne : c ≠ q := fun z => by
      rw [z, hf] at e
      cases e
    unfold Rd
    rw [upd_ne ne]
    exact r.sub.rd c u e
  · have ne : c ≠ q := fun z => by
      rw [z, hf] at e
      cases e
    rw [upd_ne ne]
    exact r.sub.tp c u e
  · rcases get_set e with ⟨rfl, e2, hl⟩ | ⟨ne, e2⟩
    · cases e2
      exact ⟨_, List.getElem?_set_self (by rw [← r.len]; exact hl), hs⟩
    · obtain ⟨w, e3, q1⟩ := r.slot j t e2
      refine ⟨w, by rw [List.getElem?_set_ne (Ne.symm ne)]; exact e3, q1.keep (Le.refl F) (fun c e4 e5 => ?_) (fun c e4 e5 => ?_) (fun S c _ e4 e5 => ?_)⟩
      · obtain ⟨c', u, e6, e7, _⟩ := q1.at e5
        rw [e4] at e6
        cases e6
        exact e7
      · obtain ⟨c', u, e6, e7, e8, _⟩ := q1.at e5
        rw [e4] at e6
        cases e6
        rw [upd_ne (ne_of_none e8 h)]
      · obtain ⟨_, _, u, e6⟩ := r.stb c e5
        rw [upd_ne (ne_of_none e6 h)]
  · rcases get_set e with ⟨rfl, e4, hl⟩ | ⟨ne, e4⟩
    · rw [List.getElem?_set_self (by rw [← r.len]; exact hl)] at e3
      cases e3
      refine ⟨hb, fun z => ?_⟩
      obtain ⟨_, _, u, e6⟩ := r.stb _ z
      rw [h] at e6
      cases e6
    · rw [List.getElem?_set_ne (Ne.symm ne)] at e3
      exact r.own j t c e4 e2 e3
  · rcases get_set e with ⟨rfl, e4, hl⟩ | ⟨ne, e4⟩
    · rw [List.getElem?_set_self (by rw [← r.len]; exact hl)] at q1
      cases q1
      rcases get_set e' with ⟨rfl, e5, _⟩ | ⟨ne', e5⟩
      · rfl
      · rw [List.getElem?_set_ne (Ne.symm ne')] at q2
        obtain ⟨w, e6, q3⟩ := r.slot k t' e5
        rw [q2] at e6
        cases e6
        exact absurd rfl (slotQ q2 q3 o')
    · rw [List.getElem?_set_ne (Ne.symm ne)] at q1
      rcases get_set e' with ⟨rfl, e5, hl⟩ | ⟨ne', e5⟩
      · rw [List.getElem?_set_self (by rw [← r.len]; exact hl)] at q2
        cases q2
        obtain ⟨w, e6, q3⟩ := r.slot j t e4
        rw [q1] at e6
        cases e6
        exact absurd rfl (slotQ q1 q3 o)
      · rw [List.getElem?_set_ne (Ne.symm ne')] at q2
        exact r.sep j k t t' c e4 e5 o o' q1 q2
  · obtain ⟨q1, q2, u, q3⟩ := r.stb c e
    exact ⟨q1, q2, u, by rw [upd_ne (ne_of_none q3 h)]; exact q3⟩
  · obtain ⟨q1, q2, u, q3⟩ := r.stb c e
    rw [upd_ne (ne_of_none q3 h)] at z
    exact r.snt c e xs z
/-- what a slot owns changes -/
theorem Rs.ownSet {Z : Addr → Prop} {B F H : Hp} {ρ : Rho} {σ : L2.St} (r : Rs st Z B F ρ σ H) {i : Nat} {q : Addr} {o u : HO} {s s' : Sl} (h1 : ρ[i]? = some (some s)) (h2 : isO s = true) (h3 : σ[i]? = some (some (.ref q))) (h4 : H q = some u) (h5 : F q = none)
    (hs : RpS st F (upd H q o) (.ref q) s') : Rs st Z B F (ρ.set i (some s')) σ (upd H q o) := by
  obtain ⟨hb, hst⟩ := r.own i s q h1 h2 h3
  have slotQ : ∀ {j : Nat} {t : Sl}, j ≠ i → ρ[j]? = some (some t) → isO t = true → σ[j]? ≠ some (some (.ref q)) := fun {j t} ne e1 o e => ne (r.sep j i t s q e1 h1 o h2 e h3)
  refine ⟨by rw [List.length_set]; exact r.len, fun c w e => ?_, ⟨fun c w e => ?_, fun c w e => ?_⟩, r.zf, r.zb, fun j t e => ?_, fun j t c e e2 e3 => ?_, fun j k t t' c e e' o o' q1 q2 => ?_, fun c e => ?_, r.znt, fun c e xs z => ?_⟩
  · have ne : c ≠ q := fun z => by
      rw [z, hb] at e
      cases e
    rw [upd_ne ne]
    exact r.bh c w e
  · have ne : c ≠ q := fun z => by
      rw [z, h5] at e
      cases e
    unfold Rd
    rw [upd_ne ne]
    exact r.sub.rd c w e
  · have ne : c ≠ q := fun z => by
      rw [z, h5] at e
      cases e
    rw [upd_ne ne]
    exact r.sub.tp c w e
  · rcases get_set e with ⟨rfl, e2, hl⟩ | ⟨ne, e2⟩
    · cases e2
      exact ⟨_, h3, hs⟩
    · obtain ⟨w, e3, q1⟩ := r.slot j t e2
      refine ⟨w, e3, q1.keep (Le.refl F) (fun c e4 e5 => ?_) (fun c e4 e5 => ?_) (fun S c _ e4 e5 => ?_)⟩
      · obtain ⟨c', u, e6, e7, _⟩ := q1.at e5
        rw [e4] at e6
        cases e6
        exact e7
      · have nc : c ≠ q := fun z => by
          subst z
          exact slotQ ne e2 e5 (e4 ▸ e3)
        rw [upd_ne nc]
      · have nc : c ≠ q := fun z => hst (by rw [← z]; exact e5)
        rw [upd_ne nc]
  · rcases get_set e with ⟨rfl, e4, hl⟩ | ⟨ne, e4⟩
    · rw [h3] at e3
      cases e3
      exact ⟨hb, hst⟩
    · exact r.own j t c e4 e2 e3
  · rcases get_set e with ⟨rfl, e4, hl⟩ | ⟨ne, e4⟩
    · rcases get_set e' with ⟨rfl, e5, _⟩ | ⟨ne', e5⟩
      · rfl
      · rw [h3] at q1
        cases q1
        exact absurd q2 (slotQ ne' e5 o')
    · rcases get_set e' with ⟨rfl, e5, hl⟩ | ⟨ne', e5⟩
      · rw [h3] at q2
        cases q2
        exact absurd q1 (slotQ ne e4 o)
      · exact r.sep j k t t' c e4 e5 o o' q1 q2
  · obtain ⟨q1, q2, w, q3⟩ := r.stb c e
    have nc : c ≠ q := fun z => hst (by rw [← z]; exact e)
    exact ⟨q1, q2, w, by rw [upd_ne nc]; exact q3⟩
  · have nc : c ≠ q := fun z => hst (by rw [← z]; exact e)
    rw [upd_ne nc] at z
    exact r.snt c e xs z
/-- x = [] -/
def sNewL (i : Nat) : Fs := fun ρ => some (.nx (ρ.set i (some (.ol []))))
theorem ds_newL (i : Nat) {x : Str} {pos' pos2 : Pos} (hN : X.N.Nodup) (hi : X.N[i]? = some x := by rfl) (hx : Loc X.env.scope x := by first | exact Or.inl rfl | exact Or.inr rfl)
    (hs : swapsWith (.List [] pos2) (some (.Name x pos')) pos.line X.env = pure false := by rfl) (hf : X.fn x = true ∨ X.env.scope.names.lookup x = some .local := by first | exact .inl rfl | exact .inr rfl) : DS X st (.Assign [.Name x pos'] (.List [] pos2) pos) (sNewL i) := by
  intro Z B F ρ σ H r E R h q1 q2
  cases h
  refine ⟨_, ps_set hN hi hx (pe_lst pa_nil) hs hf, ?_⟩
  refine ⟨Nat.zero_le _, fun q hq => ?_⟩
  exact q1 _ rfl F _ _ (Le.refl F) (R.ownNew i hq ⟨q, [], rfl, R.sub.none hq, upd_same, Nat.zero_le _, .nil⟩)
/-- x = {} -/
def sNewD (i : Nat) : Fs := fun ρ => some (.nx (ρ.set i (some (.od []))))
theorem ds_newD (i : Nat) {x : Str} {pos' pos2 : Pos} (hN : X.N.Nodup) (hi : X.N[i]? = some x := by rfl) (hx : Loc X.env.scope x := by first | exact Or.inl rfl | exact Or.inr rfl)
    (hs : swapsWith (.Dict [] [] pos2) (some (.Name x pos')) pos.line X.env = pure false := by rfl) (hf : X.fn x = true ∨ X.env.scope.names.lookup x = some .local := by first | exact .inl rfl | exact .inr rfl) : DS X st (.Assign [.Name x pos'] (.Dict [] [] pos2) pos) (sNewD i) := by
  intro Z B F ρ σ H r E R h q1 q2
  cases h
  refine ⟨_, ps_set hN hi hx pe_dnewT hs hf, ?_⟩
  intro q hq
  exact q1 _ rfl F _ _ (Le.refl F) (R.ownNew i hq ⟨q, [], rfl, R.sub.none hq, upd_same, Nat.zero_le _, .nil⟩)
/-- x.append(e) of a list that slot i owns: e reads nothing of it -/
def sApp (i : Nat) (fa : Fe) : Fs := fun ρ => match ρ[i]? with
  | some (some (.ol _)) => match fa ρ with
    | some (d, ρ1) => match ρ1[i]? with
      | some (some (.ol ds)) => if ds.length < 1000 then some (.nx (ρ1.set i (some (.ol (ds ++ [d]))))) else none
      | _ => none
    | none => none
  | _ => none
theorem ds_app (i : Nat) {x : Str} {py apos cpos : Pos} (ha : DE X st a fa) (hN : X.N[i]? = some x := by rfl) (hv : Vis X.env.scope x := by first | exact Or.inl rfl | exact Or.inr (Or.inl rfl) | exact Or.inr (Or.inr rfl)) (hd : (x == ("__debug__" : Str)) = false := by decide)
    (hcd : (x == ("__classdict__" : Str)) = false := by decide) (hs : swapsWith (.Call (.Attribute (.Name x py) "append" apos) [a] [] cpos) none pos.line X.env = pure false := by rfl)
    (hbase : attributeBase (.Name x py) "append" X.env (eval (.Name x py) X.env) = eval (.Name x py) X.env := by rfl)
    (hfew : ((backTo cpos (starEach [a] X.env)).all (fun x => !x.1) && (backToKw cpos (keywordEach [] X.env)).all (fun x => x.1.isSome)
      && decide ([a].length + ([] : List Keyword).length + (if ([] : List Keyword).isEmpty then 0 else 1) < 30)) = true := by rfl)
    (hline : (apos.endLine == cpos.line) = true := by rfl) (hst : starEach [a] X.env = (false, eval a X.env) :: starEach [] X.env := by rfl) (hplain : (backTo cpos (starEach [] X.env)).any (·.1) = false := by rfl) :
    DS X st (.Expr (.Call (.Attribute (.Name x py) "append" apos) [a] [] cpos) pos) (sApp i fa) := by
  intro Z B F ρ σ H r E R h q1 q2
  unfold sApp at h
  split at h
  · rename_i ds0 e0
    split at h
    · rename_i d ρ1 e1
      split at h
      · rename_i ds e2
        split at h
        · rename_i hl
          cases h
          refine ⟨_, ps_expr (pe_bm PySem.F.plainAttrs_list PySem.F.slot_list_append PySem.F.type_list_append mt_append (pe_var (i := i) hN hv hd hcd) (pa_cons pe_w pa_nil hst) hbase hfew hline hst hplain) hs, ?_⟩
          obtain ⟨v0, f0, q, vs0, rfl, f1, f2, f3, f4⟩ := R.slot i _ e0
          refine ⟨_, f0, .inl ⟨rfl, _, SqL.of f2⟩, ?_⟩
          refine ha _ _ _ _ _ _ _ _ _ R e1 fun F1 H1 v l1 R1 p1 => ?_
          obtain ⟨v1, g0, q', vs, rfl, g1, g2, g3, g4⟩ := R1.slot i _ e2
          rw [f0] at g0
          cases g0
          have hz : vs.length < sizeLine := by rw [g4.length]; exact small1000 (Nat.le_of_lt hl)
          refine ⟨q, vs, v, rfl, rfl, g2, hz, ?_⟩
          refine q1 _ rfl F1 σ _ l1 (R1.ownSet e2 rfl f0 g2 g1 ⟨q, vs ++ [v], rfl, g1, upd_same, ?_, RpA.append g4 (.cons p1 .nil)⟩)
          rw [List.length_append]
          exact hz
        · cases h
      · cases h
    · cases h
  · cases h

/-! ### dicts -/
def dLook (kvs : List ((Int × Int) × D)) (p : Int × Int) : Option D := (kvs.find? fun kv => decide (kv.1 = p)).map (·.2)
def dPut (kvs : List ((Int × Int) × D)) (p : Int × Int) (d : D) : List ((Int × Int) × D) :=
  if (kvs.any fun kv => decide (kv.1 = p)) = true then kvs.map (fun kv => if kv.1 = p then (kv.1, d) else kv) else kvs ++ [(p, d)]
theorem kk_inj {p q : Int × Int} (h : kk p = kk q) : p = q := by
  unfold kk at h
  injection h with h1 h2
  injection h2 with h2 _
  exact Prod.ext (Sum.inl.inj h1) (Sum.inl.inj h2)
theorem kk_dec (p q : Int × Int) : decide (kk p = kk q) = decide (p = q) := by
  by_cases h : p = q
  · rw [h, decide_eq_true rfl, decide_eq_true rfl]
  · rw [decide_eq_false h, decide_eq_false fun z => h (kk_inj z)]
theorem RpK.look {F : Hp} : ∀ {es : List (List Key × V)} {kvs : List ((Int × Int) × D)} (p : Int × Int), RpK F es kvs → (dLook kvs p = none ∧ valV es (kk p) = none) ∨ ∃ d v, dLook kvs p = some d ∧ valV es (kk p) = some v ∧ Rp F v d
  | _, _, p, .nil => .inl ⟨rfl, rfl⟩
  | _, _, p, @RpK.cons _ q v d es kvs h a => by
    by_cases e : q = p
    · subst e
      refine .inr ⟨d, v, ?_, valV_pos rfl, h⟩
      simp [dLook, List.find?_cons]
    · have ih := RpK.look p a
      have e1 : dLook ((q, d) :: kvs) p = dLook kvs p := by simp [dLook, List.find?_cons, e]
      have e2 : valV ((kk q, v) :: es) (kk p) = valV es (kk p) := valV_neg fun z => e (kk_inj z)
      rw [e1, e2]
      exact ih
theorem RpK.any {F : Hp} : ∀ {es : List (List Key × V)} {kvs : List ((Int × Int) × D)} (p : Int × Int), RpK F es kvs → (es.any fun kv => decide (kv.1 = kk p)) = (kvs.any fun kv => decide (kv.1 = p))
  | _, _, p, .nil => rfl
  | _, _, p, @RpK.cons _ q v d es kvs h a => by
    rw [List.any_cons, List.any_cons, RpK.any p a]
    show (decide (kk q = kk p) || _) = (decide (q = p) || _)
    rw [kk_dec]
theorem RpK.map {F : Hp} {w : V} {x : D} (hx : Rp F w x) : ∀ {es : List (List Key × V)} {kvs : List ((Int × Int) × D)} (p : Int × Int), RpK F es kvs → RpK F (es.map fun kv => if kv.1 = kk p then (kv.1, w) else kv) (kvs.map fun kv => if kv.1 = p then (kv.1, x) else kv)
  | _, _, p, .nil => .nil
  | _, _, p, @RpK.cons _ q v d es kvs h a => by
    have ih := RpK.map hx p a
    rw [List.map_cons, List.map_cons]
    by_cases e : q = p
    · subst e
      rw [if_pos rfl, if_pos rfl]
      exact .cons hx ih
    · rw [if_neg e, if_neg fun z => e (kk_inj z)]
      exact .cons h ih
theorem RpK.append {F : Hp} : ∀ {es es' : List (List Key × V)} {kvs kvs' : List ((Int × Int) × D)}, RpK F es kvs → RpK F es' kvs' → RpK F (es ++ es') (kvs ++ kvs')
  | _, _, _, _, .nil, b => b
  | _, _, _, _, .cons h a, b => .cons h (RpK.append a b)
theorem RpK.put {F : Hp} {es : List (List Key × V)} {kvs : List ((Int × Int) × D)} {w : V} {x : D} (hx : Rp F w x) (p : Int × Int) (h : RpK F es kvs) : RpK F (putK es (kk p) w) (dPut kvs p x) := by
  unfold putK dPut
  rw [h.any p]
  split
  · exact h.map hx p
  · exact h.append (.cons hx .nil)
theorem kk_map (p : Int × Int) : (kk p).map kV = [.int p.1, .int p.2] := rfl
/-- a tuple of two ints, as a key -/
def dKey : D → Option (Int × Int)
  | .tup [.int i, .int j] => some (i, j)
  | _ => none
theorem Rp.key {F H : Hp} {v : V} {d : D} {k : Int × Int} (s : Sub F H) (h : Rp F v d) (e : dKey d = some k) : ∃ q, v = .ref q ∧ H q = some (.tup ((kk k).map kV)) := by
  unfold dKey at e
  split at e
  · cases e
    cases h with
    | tup h1 h2 h3 =>
      obtain ⟨u, w, rfl, e1, e2⟩ := RpA.two h3
      cases e1
      cases e2
      exact ⟨_, rfl, s.tp _ _ h1⟩
  · cases e
/-- a dict by its expression: data, or what slot i owns -/
def gDget : D → D → Option D
  | .dct kvs, y => match dKey y with
    | some k => dLook kvs k
    | none => none
  | _, _ => none
theorem getT {F H : Hp} {u v : V} {kvs : List ((Int × Int) × D)} {y : D} {k : Int × Int} (s : Sub F H) (p1 : Rp F u (.dct kvs)) (p2 : Rp F v y) (hk : dKey y = some k) : ∃ q es, u = .ref q ∧ RpK F es kvs ∧ DGet H q v (valV es (kk k)) := by
  cases p1 with
  | @dct q es _ e1 e2 e3 =>
    obtain ⟨b, rfl, e4⟩ := p2.key s hk
    exact ⟨q, es, rfl, e3, .inr ⟨es, kk k, b, s.rd _ _ e1, rfl, e4, rfl⟩⟩
theorem de_dget (hu : X.A.units + 1 < cLine) (ha : DE X st a fa) (hb : DE X st b fb) (hs : NoSl b := by exact fun _ _ => rfl) : DE X st (.Subscript a b pos) (e2 gDget fa fb) := by
  intro Z B F ρ σ H d ρ' Q r h q
  obtain ⟨x, ρ1, y, h1, h2, h3⟩ := e2_inv h
  refine ⟨_, pe_dget hu pe_w pe_w hs, ?_⟩
  refine two_of ha hb r h1 h2 fun F1 H1 u v l1 r1 p1 p2 => ?_
  unfold gDget at h3
  split at h3
  · rename_i kvs y
    split at h3
    · rename_i k hk
      obtain ⟨a', es, rfl, e3, g⟩ := getT r1.sub p1 p2 hk
      rcases e3.look k with ⟨z1, z2⟩ | ⟨d', w, z1, z2, z3⟩
      · rw [z1] at h3
        cases h3
      · rw [z1] at h3
        cases h3
        rw [z2] at g
        exact ⟨a', w, rfl, g, q F1 H1 w l1 r1 z3⟩
    · cases h3
  · cases h3
def gDin (neg : Bool) : D → D → Option D
  | y, .dct kvs => match dKey y with
    | some k => some (.bl (if neg then !(dLook kvs k).isSome else (dLook kvs k).isSome))
    | none => none
  | _, _ => none
theorem look_some {F : Hp} {es : List (List Key × V)} {kvs : List ((Int × Int) × D)} (h : RpK F es kvs) (k : Int × Int) : (valV es (kk k)).isSome = (dLook kvs k).isSome := by
  rcases h.look k with ⟨z1, z2⟩ | ⟨d', w, z1, z2, z3⟩
  · rw [z1, z2]
    rfl
  · rw [z1, z2]
    rfl
theorem de_din (hu : X.A.units + 1 < cLine) (ha : DE X st a fa) (hb : DE X st b fb) (hm : behindInMarks .In b = false := by rfl) : DE X st (.Compare a [.In] [b] pos) (e2 (gDin false) fa fb) := by
  intro Z B F ρ σ H d ρ' Q r h q
  obtain ⟨x, ρ1, y, h1, h2, h3⟩ := e2_inv h
  refine ⟨_, pe_cmp (pc_din hu pe_w pe_w) hm, ?_⟩
  refine two_of ha hb r h1 h2 fun F1 H1 u v l1 r1 p1 p2 => ?_
  unfold gDin at h3
  split at h3
  · rename_i kvs
    split at h3
    · rename_i k hk
      cases h3
      obtain ⟨a', es, rfl, e3, g⟩ := getT r1.sub p2 p1 hk
      refine ⟨a', _, rfl, g, ?_⟩
      rw [look_some e3 k]
      exact q F1 H1 _ l1 r1 (.bl _)
    · cases h3
  · cases h3
theorem de_dnotin (hu : X.A.units + 1 < cLine) (ha : DE X st a fa) (hb : DE X st b fb) (hm : behindInMarks .NotIn b = false := by rfl) : DE X st (.Compare a [.NotIn] [b] pos) (e2 (gDin true) fa fb) := by
  intro Z B F ρ σ H d ρ' Q r h q
  obtain ⟨x, ρ1, y, h1, h2, h3⟩ := e2_inv h
  refine ⟨_, pe_cmp (pc_dnotin hu pe_w pe_w) hm, ?_⟩
  refine two_of ha hb r h1 h2 fun F1 H1 u v l1 r1 p1 p2 => ?_
  unfold gDin at h3
  split at h3
  · rename_i kvs
    split at h3
    · rename_i k hk
      cases h3
      obtain ⟨a', es, rfl, e3, g⟩ := getT r1.sub p2 p1 hk
      refine ⟨a', _, rfl, g, ?_⟩
      rw [look_some e3 k]
      exact q F1 H1 _ l1 r1 (.bl _)
    · cases h3
  · cases h3
/-- the same, of a dict that slot i owns: it stays owned -/
def eDgetO (i : Nat) (fb : Fe) : Fe := fun ρ => match ρ[i]? with
  | some (some (.od _)) => match fb ρ with
    | some (y, ρ1) => match ρ1[i]? with
      | some (some (.od kvs)) => match dKey y with
        | some k => match dLook kvs k with
          | some d => some (d, ρ1)
          | none => none
        | none => none
      | _ => none
    | none => none
  | _ => none
theorem de_dgetO (i : Nat) {x : Str} {py : Pos} (hu : X.A.units + 1 < cLine) (hb : DE X st b fb) (hN : X.N[i]? = some x := by rfl) (hv : Vis X.env.scope x := by first | exact Or.inl rfl | exact Or.inr (Or.inl rfl) | exact Or.inr (Or.inr rfl)) (hd : (x == ("__debug__" : Str)) = false := by decide)
    (hcd : (x == ("__classdict__" : Str)) = false := by decide) (hs : NoSl b := by exact fun _ _ => rfl) : DE X st (.Subscript (.Name x py) b pos) (eDgetO i fb) := by
  intro Z B F ρ σ H d ρ' Q r h q
  refine ⟨_, pe_dget hu (pe_var (i := i) hN hv hd hcd) pe_w hs, ?_⟩
  unfold eDgetO at h
  split at h
  · rename_i kvs0 e0
    obtain ⟨v0, f0, a0, es0, rfl, f1, f2, f3, f4⟩ := r.slot i _ e0
    split at h
    · rename_i y ρ1 h1
      split at h
      · rename_i kvs e1
        split at h
        · rename_i k hk
          split at h
          · rename_i d' hl
            cases h
            refine ⟨_, f0, ?_⟩
            refine hb _ _ _ _ _ _ _ _ _ r h1 fun F1 H1 v l1 r1 p1 => ?_
            obtain ⟨v1, g0, a1, es, rfl, g1, g2, g3, g4⟩ := r1.slot i _ e1
            rw [f0] at g0
            cases g0
            obtain ⟨b', rfl, e4⟩ := p1.key r1.sub hk
            rcases g4.look k with ⟨z1, z2⟩ | ⟨d2, w, z1, z2, z3⟩
            · rw [z1] at hl
              cases hl
            · rw [z1] at hl
              cases hl
              exact ⟨_, w, rfl, .inr ⟨es, kk k, b', .inl g2, rfl, e4, z2.symm⟩, q F1 H1 w l1 r1 z3⟩
          · cases h
        · cases h
      · cases h
    · cases h
  · cases h
def eDinO (neg : Bool) (i : Nat) (fb : Fe) : Fe := fun ρ => match fb ρ with
  | some (y, ρ1) => match ρ1[i]? with
    | some (some (.od kvs)) => match dKey y with
      | some k => some (.bl (if neg then !(dLook kvs k).isSome else (dLook kvs k).isSome), ρ1)
      | none => none
    | _ => none
  | none => none
theorem de_dinO (i : Nat) {x : Str} {py : Pos} (hu : X.A.units + 1 < cLine) (hb : DE X st b fb) (hN : X.N[i]? = some x := by rfl) (hv : Vis X.env.scope x := by first | exact Or.inl rfl | exact Or.inr (Or.inl rfl) | exact Or.inr (Or.inr rfl)) (hd : (x == ("__debug__" : Str)) = false := by decide)
    (hcd : (x == ("__classdict__" : Str)) = false := by decide) (hm : behindInMarks .In (.Name x py) = false := by rfl) : DE X st (.Compare b [.In] [.Name x py] pos) (eDinO false i fb) := by
  intro Z B F ρ σ H d ρ' Q r h q
  refine ⟨_, pe_cmp (pc_din hu pe_w (pe_var (i := i) hN hv hd hcd)) hm, ?_⟩
  unfold eDinO at h
  split at h
  · rename_i y ρ1 h1
    split at h
    · rename_i kvs e1
      split at h
      · rename_i k hk
        cases h
        refine hb _ _ _ _ _ _ _ _ _ r h1 fun F1 H1 v l1 r1 p1 => ?_
        obtain ⟨v1, g0, a1, es, rfl, g1, g2, g3, g4⟩ := r1.slot i _ e1
        obtain ⟨b', rfl, e4⟩ := p1.key r1.sub hk
        refine ⟨_, g0, a1, _, rfl, .inr ⟨es, kk k, b', .inl g2, rfl, e4, rfl⟩, ?_⟩
        rw [look_some g4 k]
        exact q F1 H1 _ l1 r1 (.bl _)
      · cases h
    · cases h
  · cases h
theorem de_dnotinO (i : Nat) {x : Str} {py : Pos} (hu : X.A.units + 1 < cLine) (hb : DE X st b fb) (hN : X.N[i]? = some x := by rfl) (hv : Vis X.env.scope x := by first | exact Or.inl rfl | exact Or.inr (Or.inl rfl) | exact Or.inr (Or.inr rfl)) (hd : (x == ("__debug__" : Str)) = false := by decide)
    (hcd : (x == ("__classdict__" : Str)) = false := by decide) (hm : behindInMarks .NotIn (.Name x py) = false := by rfl) : DE X st (.Compare b [.NotIn] [.Name x py] pos) (eDinO true i fb) := by
  intro Z B F ρ σ H d ρ' Q r h q
  refine ⟨_, pe_cmp (pc_dnotin hu pe_w (pe_var (i := i) hN hv hd hcd)) hm, ?_⟩
  unfold eDinO at h
  split at h
  · rename_i y ρ1 h1
    split at h
    · rename_i kvs e1
      split at h
      · rename_i k hk
        cases h
        refine hb _ _ _ _ _ _ _ _ _ r h1 fun F1 H1 v l1 r1 p1 => ?_
        obtain ⟨v1, g0, a1, es, rfl, g1, g2, g3, g4⟩ := r1.slot i _ e1
        obtain ⟨b', rfl, e4⟩ := p1.key r1.sub hk
        refine ⟨_, g0, a1, _, rfl, .inr ⟨es, kk k, b', .inl g2, rfl, e4, rfl⟩, ?_⟩
        rw [look_some g4 k]
        exact q F1 H1 _ l1 r1 (.bl _)
      · cases h
    · cases h
  · cases h
/-- d[k] = v, d owned by slot i -/
def sPut (i : Nat) (fk fv : Fe) : Fs := fun ρ => match fv ρ with
  | some (d, ρ1) => match ρ1[i]? with
    | some (some (.od _)) => match fk ρ1 with
      | some (y, ρ2) => match ρ2[i]? with
        | some (some (.od kvs)) => match dKey y with
          | some k => if kvs.length < 1000 then some (.nx (ρ2.set i (some (.od (dPut kvs k d))))) else none
          | none => none
        | _ => none
      | none => none
    | _ => none
  | none => none
theorem ds_put (i : Nat) {x : Str} {py pos' : Pos} (hu : X.A.units + 1 < cLine) (hk : DE X st b fb) (hvl : DE X st a fa) (hN : X.N[i]? = some x := by rfl) (hv : Vis X.env.scope x := by first | exact Or.inl rfl | exact Or.inr (Or.inl rfl) | exact Or.inr (Or.inr rfl)) (hd : (x == ("__debug__" : Str)) = false := by decide)
    (hcd : (x == ("__classdict__" : Str)) = false := by decide) (hs : swapsWith a (some (.Subscript (.Name x py) b pos')) pos.line X.env = pure false := by rfl) : DS X st (.Assign [.Subscript (.Name x py) b pos'] a pos) (sPut i fb fa) := by
  intro Z B F ρ σ H r E R h q1 q2
  refine ⟨_, ps_dput hu (pe_var (i := i) hN hv hd hcd) pe_w pe_w hs, ?_⟩
  unfold sPut at h
  split at h
  · rename_i d ρ1 h1
    split at h
    · rename_i kvs0 e0
      split at h
      · rename_i y ρ2 h2
        split at h
        · rename_i kvs e1
          split at h
          · rename_i k hk'
            split at h
            · rename_i hl
              cases h
              refine hvl _ _ _ _ _ _ _ _ _ R h1 fun F1 H1 v l1 R1 p1 => ?_
              obtain ⟨v0, f0, a0, es0, rfl, f1, f2, f3, f4⟩ := R1.slot i _ e0
              refine ⟨_, f0, ?_⟩
              refine hk _ _ _ _ _ _ _ _ _ R1 h2 fun F2 H2 w l2 R2 p2 => ?_
              obtain ⟨v1, g0, a1, es, rfl, g1, g2, g3, g4⟩ := R2.slot i _ e1
              rw [f0] at g0
              cases g0
              obtain ⟨b', rfl, e4⟩ := p2.key R2.sub hk'
              have hz : es.length < sizeLine := by rw [g4.length]; exact small1000 (Nat.le_of_lt hl)
              refine ⟨a0, _, rfl, .inr ⟨es, kk k, b', g2, rfl, e4, hz, rfl⟩, ?_⟩
              refine q1 _ rfl F2 σ _ (l1.trans l2) (R2.ownSet e1 rfl f0 g2 g1 ⟨a0, putK es (kk k) v, rfl, g1, upd_same, ?_, g4.put (Rp.mono l2 p1) k⟩)
              exact Nat.le_trans (length_putK es (kk k) v) hz
            · cases h
          · cases h
        · cases h
      · cases h
    · cases h
  · cases h
/-- d.get(k) -/
def gDget1 : D → D → Option D
  | .dct kvs, y => match dKey y with
    | some k => some ((dLook kvs k).getD .non)
    | none => none
  | _, _ => none
theorem de_dget1 {apos cpos : Pos} (hu : X.A.units + 1 < cLine) (ha : DE X st a fa) (hb : DE X st b fb) (hd : ∀ ρ d ρ1, fa ρ = some (d, ρ1) → ∃ kvs, d = .dct kvs) (m : M1 X a "get" apos b cpos := by exact ⟨rfl, rfl, rfl, rfl⟩) : DE X st (.Call (.Attribute a "get" apos) [b] [] cpos) (e2 gDget1 fa fb) := by
  intro Z B F ρ σ H d ρ' Q r h q
  obtain ⟨x, ρ1, y, h1, h2, h3⟩ := e2_inv h
  refine ⟨_, pe_dget1 hu pe_w pe_w m, ?_⟩
  refine ha _ _ _ _ _ _ _ _ _ r h1 fun F1 H1 u l1 r1 p1 => ?_
  obtain ⟨kvs, rfl⟩ := hd _ _ _ h1
  cases p1 with
  | @dct a0 es0 _ f1 f2 f3 =>
    refine ⟨a0, rfl, .inr ⟨_, r1.sub.rd _ _ f1⟩, ?_⟩
    refine hb _ _ _ _ _ _ _ _ _ r1 h2 fun F2 H2 v l2 r2 p2 => ?_
    simp only [gDget1] at h3
    split at h3
    · rename_i k hk
      cases h3
      obtain ⟨a', es, e0, e3, g⟩ := getT r2.sub (.dct (l2 _ _ f1) f2 (f3.mono l2)) p2 hk
      cases e0
      refine ⟨_, g, ?_⟩
      rcases e3.look k with ⟨z1, z2⟩ | ⟨d', w, z1, z2, z3⟩
      · rw [z2]
        rw [z1] at q
        exact q F2 H2 _ (l1.trans l2) r2 .non
      · rw [z2]
        rw [z1] at q
        exact q F2 H2 _ (l1.trans l2) r2 z3
    · cases h3

/-! ### the stream's cells -/
/-- s[0], s[1], s[2] -/
def stGet (S : Strm) : Int → Option D
  | 0 => some (.lst (S.scr.map D.int))
  | 1 => some (.int S.cell)
  | 2 => some (.int S.k)
  | _ => none
def eStIx (i : Nat) (j : Int) : Fe := fun ρ => match ρ[i]? with
  | some (some (.st S)) => match stGet S j with
    | some d => some (d, ρ)
    | none => none
  | _ => none
theorem de_stIx (i : Nat) {x : Str} {py pj : Pos} {j : Int} {kj : Nat} (hN : X.N[i]? = some x := by rfl) (hv : Vis X.env.scope x := by first | exact Or.inl rfl | exact Or.inr (Or.inl rfl) | exact Or.inr (Or.inr rfl)) (hd : (x == ("__debug__" : Str)) = false := by decide)
    (hcd : (x == ("__classdict__" : Str)) = false := by decide) (hs : PlainIx (.Constant (.int j) kj pj) := by exact fun _ _ => rfl) : DE X st (.Subscript (.Name x py) (.Constant (.int j) kj pj) pos) (eStIx i j) := by
  intro Z B F ρ σ H d ρ' Q r h q
  unfold eStIx at h
  split at h
  · rename_i S e0
    split at h
    · rename_i d' e1
      cases h
      obtain ⟨a', b', s0, s1, s2, s3, s4⟩ := stream_at r e0
      refine ⟨_, pe_ix ix_list (pe_var (i := i) hN hv hd hcd) pe_int hs, _, s1, ?_⟩
      unfold stGet at e1
      split at e1
      · cases e1
        exact ⟨_, _, 0, _, rfl, rfl, SqL.of s3, atI_nat (j := 0) rfl, q F H _ (Le.refl F) r s4⟩
      · cases e1
        exact ⟨_, _, 1, _, rfl, rfl, SqL.of s3, atI_nat (j := 1) rfl, q F H _ (Le.refl F) r (.int _)⟩
      · cases e1
        exact ⟨_, _, 2, _, rfl, rfl, SqL.of s3, atI_nat (j := 2) rfl, q F H _ (Le.refl F) r (.int _)⟩
      · cases e1
    · cases h
  · cases h
/-- s[1] = e, s[2] = e -/
def stPut (S : Strm) (j : Int) (n : Int) : Option Strm := match j with
  | 1 => some { S with cell := n }
  | 2 => some { S with k := n }
  | _ => none
def sStPut (i : Nat) (j : Int) (fa : Fe) : Fs := fun ρ => match fa ρ with
  | some (.int n, ρ1) => match ρ1[i]? with
    | some (some (.st S)) => match stPut S j n with
      | some S' => some (.nx (setSt S' ρ1))
      | none => none
    | _ => none
  | _ => none
theorem Rs.stSet {Z : Addr → Prop} {B F H : Hp} {ρ : Rho} {σ : L2.St} (r : Rs st Z B F ρ σ H) {i : Nat} {a b : Addr} {S' : Strm} (h0 : st = some a) (h2 : Rp F (.ref b) (.lst (S'.scr.map D.int))) : Rs st Z B F (setSt S' ρ) σ (upd H a (.lst [.ref b, .int S'.cell, .int S'.k])) := by
  obtain ⟨hB, hF, hH⟩ := r.stb a h0
  refine ⟨by unfold setSt; rw [List.length_map]; exact r.len, fun c o e => ?_, ⟨fun c o e => ?_, fun c o e => ?_⟩, r.zf, r.zb, fun j t e => ?_, fun j t c e e2 e3 => ?_, fun j k t t' c e e' o o' s s' => ?_, fun c e => ?_, r.znt, fun c e xs z => ?_⟩
  · have ne : c ≠ a := fun z => by
      rw [z, hB] at e
      cases e
    rw [upd_ne ne]
    exact r.bh c o e
  · have ne : c ≠ a := fun z => by
      rw [z, hF] at e
      cases e
    unfold Rd
    rw [upd_ne ne]
    exact r.sub.rd c o e
  · have ne : c ≠ a := fun z => by
      rw [z, hF] at e
      cases e
    rw [upd_ne ne]
    exact r.sub.tp c o e
  · rcases setSt_get e with ⟨e1, ns⟩ | ⟨rfl, S2, e1⟩
    · obtain ⟨v, e2, q⟩ := r.slot j t e1
      refine ⟨v, e2, q.keep (Le.refl F) (fun c e3 e4 => ?_) (fun c e3 e4 => ?_) fun S c e3 _ _ => absurd e3 (ns S)⟩
      · obtain ⟨c', u, e5, e6, _⟩ := q.at e4
        rw [e3] at e5
        cases e5
        exact e6
      · have e8 := (r.own j t c e1 e4 (e3 ▸ e2)).2
        rw [upd_ne fun z => e8 (by rw [z]; exact h0)]
    · obtain ⟨a2, b2, t0, t1, _⟩ := stream_at r e1
      rw [h0] at t0
      cases t0
      exact ⟨_, t1, a, b, h0, rfl, upd_same, h2⟩
  · rcases setSt_get e with ⟨e1, ns⟩ | ⟨rfl, S2, e1⟩
    · exact r.own j t c e1 e2 e3
    · cases e2
  · rcases setSt_get e with ⟨e1, ns⟩ | ⟨rfl, S2, e1⟩
    · rcases setSt_get e' with ⟨e2, ns⟩ | ⟨rfl, S2, e2⟩
      · exact r.sep j k t t' c e1 e2 o o' s s'
      · cases o'
    · cases o
  · rw [h0] at e
    cases e
    exact ⟨hB, hF, _, upd_same⟩
  · rw [h0] at e
    cases e
    rw [upd_same] at z
    cases z
theorem ds_stPut (i : Nat) {x : Str} {py pj pos' : Pos} {j : Int} {kj : Nat} (ha : DE X st a fa) (hN : X.N[i]? = some x := by rfl) (hv : Vis X.env.scope x := by first | exact Or.inl rfl | exact Or.inr (Or.inl rfl) | exact Or.inr (Or.inr rfl)) (hd : (x == ("__debug__" : Str)) = false := by decide)
    (hcd : (x == ("__classdict__" : Str)) = false := by decide)
    (hA : ∀ v, assign (.Subscript (.Name x py) (.Constant (.int j) kj pj) pos') X.env v = (do
      let ov ← holding [v] (eval (.Name x py) X.env)
      let iv ← holding [v, ov] (eval (.Constant (.int j) kj pj) X.env)
      standAt pos'
      holding [v, ov, iv] (setItem ov iv v)
      release [v, ov, iv] []) := by intro _; rfl)
    (hs : swapsWithSole [.Subscript (.Name x py) (.Constant (.int j) kj pj) pos'] a pos.line X.env = pure false := by rfl) (hw : swappedStores [.Subscript (.Name x py) (.Constant (.int j) kj pj) pos'] a X.env = pure none := by rfl)
    (h1 : (assignEach [.Subscript (.Name x py) (.Constant (.int j) kj pj) pos'] X.env).map (·.2) = [assign (.Subscript (.Name x py) (.Constant (.int j) kj pj) pos') X.env] := by rfl) :
    DS X st (.Assign [.Subscript (.Name x py) (.Constant (.int j) kj pj) pos'] a pos) (sStPut i j fa) := by
  intro Z B F ρ σ H r E R h q1 q2
  refine ⟨_, ps_asg pe_w (pg_sub (pe_var (i := i) hN hv hd hcd) pe_int set_list hA) hs hw h1, ?_⟩
  unfold sStPut at h
  split at h
  · rename_i n ρ1 e1
    split at h
    · rename_i S e2
      split at h
      · rename_i S' e3
        cases h
        refine ha _ _ _ _ _ _ _ _ _ R e1 fun F1 H1 v l1 R1 p1 => ?_
        cases p1
        obtain ⟨a', b', s0, s1, s2, s3, s4⟩ := stream_at R1 e2
        refine ⟨_, s1, ?_⟩
        unfold stPut at e3
        split at e3
        · cases e3
          refine ⟨a', _, 1, 1, rfl, rfl, s3, rfl, ?_⟩
          exact q1 _ rfl F1 σ _ l1 (R1.stSet (i := i) (S' := { S with cell := n }) s0 s4)
        · cases e3
          refine ⟨a', _, 2, 2, rfl, rfl, s3, rfl, ?_⟩
          exact q1 _ rfl F1 σ _ l1 (R1.stSet (i := i) (S' := { S with k := n }) s0 s4)
        · cases e3
      · cases h
    · cases h
  · cases h
end
end Kx
set_option Elab.async false
set_option linter.all false
set_option maxRecDepth 100000
set_option maxHeartbeats 4000000
/-! what is walked; loops; list comprehensions -/
namespace Kx
open PySem PySem.Spec PyProof.Rows L2

section
variable {X : Cx} {st : Option Addr} {K : PySem.W.Frag} {e a b c : Expr} {es : List Expr} {pos p : Pos} {fa fb : Fe}

/-- J yields what stands for ds, as long as the data of F stays and B is kept -/
structure Wk (st : Option Addr) (Z : Addr → Prop) (B F : Hp) (J : It) (ds : List D) : Prop where
  goes : ∀ Z1 B1 F1 ρ σ H i, (∀ a, Z a → Z1 a) → (∀ a o, B a = some o → B1 a = some o) → Le F F1 → Rs st Z1 B1 F1 ρ σ H → i < ds.length → J.go i H
  stops : ∀ Z1 B1 F1 ρ σ H, (∀ a, Z a → Z1 a) → (∀ a o, B a = some o → B1 a = some o) → Le F F1 → Rs st Z1 B1 F1 ρ σ H → J.stop ds.length H
  yields : ∀ Z1 B1 F1 ρ σ H i x H' d, (∀ a, Z a → Z1 a) → (∀ a o, B a = some o → B1 a = some o) → Le F F1 → Rs st Z1 B1 F1 ρ σ H → ds[i]? = some d → J.yld i H x H' → ∃ F2, Le F1 F2 ∧ Rs st Z1 B1 F2 ρ σ H' ∧ Rp F2 x d
abbrev Fi := Rho → Option (List D × Rho)
def DI (X : Cx) (st : Option Addr) (tg iter : Expr) (f : Fi) : Prop := ∀ Z B F ρ σ H ds ρ' (R : It → Hp → Prop), Rs st Z B F ρ σ H → f ρ = some (ds, ρ') → (∀ J F' H', Le F F' → Rs st Z B F' ρ' σ H' → Wk st Z B F' J ds → ds.length ≤ sizeLine → R J H') → WI X tg iter σ H R

/-! ### range, lists, tuples, enumerate, zip -/
def rangeD (lo : Int) (n : Nat) : List D := (List.range n).map fun i => D.int (lo + (i : Nat))
theorem rangeD_length (lo : Int) (n : Nat) : (rangeD lo n).length = n := by
  unfold rangeD
  rw [List.length_map, List.length_range]
theorem wk_range {Z : Addr → Prop} {B F : Hp} (n : Nat) : Wk st Z B F (Itr 0 n) (rangeD 0 n) where
  goes := fun Z1 B1 F1 ρ σ H i _ _ _ _ hi => by
    rw [rangeD_length] at hi
    exact hi
  stops := fun Z1 B1 F1 ρ σ H _ _ _ _ => by
    rw [rangeD_length]
    exact Nat.le_refl _
  yields := fun Z1 B1 F1 ρ σ H i x H' d _ _ _ r e y => by
    obtain ⟨rfl, rfl⟩ := y
    refine ⟨F1, Le.refl _, r, ?_⟩
    unfold rangeD at e
    rw [List.getElem?_map] at e
    cases hi : (List.range n)[i]? with
    | none =>
      rw [hi] at e
      cases e
    | some j =>
      rw [hi] at e
      cases e
      have ej : j = i := by
        obtain ⟨h1, h2⟩ := List.getElem?_eq_some_iff.mp hi
        rw [List.getElem_range] at h2
        exact h2.symm
      subst ej
      exact .int _
def iRange (fa : Fe) : Fi := fun ρ => match fa ρ with
  | some (.int j, ρ1) => if j ≤ 1000 ∧ -1000 ≤ j then some (rangeD 0 j.toNat, ρ1) else none
  | _ => none
theorem di_range {tg : Expr} (hg : Gl X "range") (hm : X.mg "range" = none) (ha : DE X st a fa) (hs : starEach [a] X.env = [(false, eval a X.env)] := by rfl) : DI X st tg (.Call (.Name "range" p) [a] [] pos) (iRange fa) := by
  intro Z B F ρ σ H ds ρ' R r h q
  unfold iRange at h
  split at h
  · rename_i j ρ1 h1
    split at h
    · rename_i hj
      cases h
      refine ⟨_, pi_range1 hg hm (pa_cons pe_w pa_nil hs) hs, ?_⟩
      refine ha _ _ _ _ _ _ _ _ _ r h1 fun F1 H1 v l1 r1 p1 => ?_
      cases p1
      refine ⟨j, rfl, by omega, by omega, ?_⟩
      refine q _ F1 H1 l1 r1 (wk_range _) ?_
      rw [rangeD_length]
      exact line_of (by omega)
    · cases h
  · cases h
theorem wk_list {Z : Addr → Prop} {B F : Hp} {q : Addr} {vs : List V} {ds : List D} (h : F q = some (.lst vs)) (p : RpA F vs ds) : Wk st Z B F (Itl K q) ds where
  goes := fun Z1 B1 F1 ρ σ H i _ _ l r hi => by
    obtain ⟨v, e, _⟩ := p.get (List.getElem?_eq_getElem hi)
    exact ⟨vs, v, seqL r.sub (l _ _ h), e⟩
  stops := fun Z1 B1 F1 ρ σ H _ _ l r => ⟨vs, seqL r.sub (l _ _ h), by rw [p.length]; exact Nat.le_refl _⟩
  yields := fun Z1 B1 F1 ρ σ H i x H' d _ _ l r e y => by
    obtain ⟨rfl, y2⟩ := y
    obtain ⟨v, e1, e2⟩ := p.get e
    have e3 := y2 vs (seqL r.sub (l _ _ h))
    rw [e1] at e3
    cases e3
    exact ⟨F1, Le.refl _, r, Rp.mono l e2⟩
theorem wk_tup {Z : Addr → Prop} {B F : Hp} {q : Addr} {vs : List V} {ds : List D} (h : F q = some (.tup vs)) (p : RpA F vs ds) : Wk st Z B F (Itt K q) ds where
  goes := fun Z1 B1 F1 ρ σ H i _ _ l r hi => by
    obtain ⟨v, e, _⟩ := p.get (List.getElem?_eq_getElem hi)
    exact ⟨vs, v, seqT r.sub (l _ _ h), e⟩
  stops := fun Z1 B1 F1 ρ σ H _ _ l r => ⟨vs, seqT r.sub (l _ _ h), by rw [p.length]; exact Nat.le_refl _⟩
  yields := fun Z1 B1 F1 ρ σ H i x H' d _ _ l r e y => by
    obtain ⟨rfl, y2⟩ := y
    obtain ⟨v, e1, e2⟩ := p.get e
    have e3 := y2 vs (seqT r.sub (l _ _ h))
    rw [e1] at e3
    cases e3
    exact ⟨F1, Le.refl _, r, Rp.mono l e2⟩
/-- a list or a tuple -/
def iSeq (fa : Fe) : Fi := fun ρ => match fa ρ with
  | some (.tup ds, ρ1) => some (ds, ρ1)
  | some (.lst ds, ρ1) => some (ds, ρ1)
  | _ => none
theorem WI.or {tg iter : Expr} {σ : L2.St} {H : Hp} {R : It → Hp → Prop} {t : TI} (h : PI X tg iter t) (q : t σ H R) : WI X tg iter σ H R := ⟨t, h, q⟩
theorem pi_seq {tg l : Expr} {tl : TE} (hl : PE X l tl) : PI X tg l (fun σ H R => tl σ H fun x H1 => ∃ q, x = .ref q ∧ (((∃ xs, SqL X.K H1 q xs) ∧ R (Itl X.K q) H1) ∨ ((∃ xs, SqT X.K H1 q xs) ∧ R (Itt X.K q) H1))) := by
  refine ⟨fun pins s σ H R I h => ?_⟩
  refine thn (hl.run pins s σ H _ I h) fun v s1 ⟨x, H1, I1, r1, q1⟩ => ?_
  obtain ⟨a, e, q1⟩ := q1
  subst e
  rcases q1 with ⟨hq, q1⟩ | ⟨hq, q1⟩
  · -- as pi_list of a value that stands already
    cases r1
    obtain ⟨xs, hq⟩ := hq
    obtain ⟨its, rv, p, hz⟩ := I1.list hq
    refine wpAny_pyIter_list p.isList ?_
    refine ⟨s1.heap.objs.size, [s1.heap.objs.size], _, _, H1, rfl, I1.kept (t' := s1.toks) fun b o e => Heap.get?_push_of_some _ e, turn_list a _, ⟨_, Heap.get?_push_size _ rfl, rfl, rfl⟩, fun b hb => ?_, q1⟩
    have e : b = s1.heap.objs.size := by simpa using hb
    subst e
    exact I1.fpOk (Nat.le_refl _) (I1.hok.fresh (Nat.le_refl _))
  · cases r1
    obtain ⟨xs, hq⟩ := hq
    obtain ⟨its, rv, p, hz⟩ := I1.tuple hq
    refine wpAny_pyIter_tuple (show s1.heap.IsTuple a its.toArray from p) ?_
    refine ⟨s1.heap.objs.size, [s1.heap.objs.size], _, _, H1, rfl, I1.kept (t' := s1.toks) fun b o e => Heap.get?_push_of_some _ e, turn_tuple a _, ⟨_, Heap.get?_push_size _ rfl, rfl, rfl⟩, fun b hb => ?_, q1⟩
    have e : b = s1.heap.objs.size := by simpa using hb
    subst e
    exact I1.fpOk (Nat.le_refl _) (I1.hok.fresh (Nat.le_refl _))
theorem di_seq {tg : Expr} (ha : DE X st a fa) : DI X st tg a (iSeq fa) := by
  intro Z B F ρ σ H ds ρ' R r h q
  refine ⟨_, pi_seq pe_w, ?_⟩
  unfold iSeq at h
  split at h
  · rename_i ds' ρ1 h1
    cases h
    refine ha _ _ _ _ _ _ _ _ _ r h1 fun F1 H1 v l1 r1 p1 => ?_
    cases p1 with
    | tup e1 e2 e3 => exact ⟨_, rfl, .inr ⟨⟨_, seqT r1.sub e1⟩, q _ F1 H1 l1 r1 (wk_tup e1 e3) (by rw [← e3.length]; exact e2)⟩⟩
  · rename_i ds' ρ1 h1
    cases h
    refine ha _ _ _ _ _ _ _ _ _ r h1 fun F1 H1 v l1 r1 p1 => ?_
    cases p1 with
    | lst e1 e2 e3 => exact ⟨_, rfl, .inl ⟨⟨_, seqL r1.sub e1⟩, q _ F1 H1 l1 r1 (wk_list e1 e3) (by rw [← e3.length]; exact e2)⟩⟩
  · cases h
/-- zip of two tuples, two lists: of one length -/
def zipD (xs ys : List D) : List D := (xs.zip ys).map fun p => D.tup [p.1, p.2]
theorem zipD_length (xs ys : List D) : (zipD xs ys).length = min xs.length ys.length := by
  unfold zipD
  rw [List.length_map, List.length_zip]
theorem zipD_get {xs ys : List D} {i : Nat} {d : D} (h : (zipD xs ys)[i]? = some d) : ∃ x y, xs[i]? = some x ∧ ys[i]? = some y ∧ d = .tup [x, y] := by
  unfold zipD at h
  rw [List.getElem?_map] at h
  cases e : (xs.zip ys)[i]? with
  | none =>
    rw [e] at h
    cases h
  | some p =>
    rw [e] at h
    cases h
    rw [List.getElem?_zip_eq_some] at e
    exact ⟨p.1, p.2, e.1, e.2, rfl⟩
theorem wk_zipT {Z : Addr → Prop} {B F : Hp} {q q' : Addr} {vs ws : List V} {ds es : List D} (h : F q = some (.tup vs)) (p : RpA F vs ds) (h' : F q' = some (.tup ws)) (p' : RpA F ws es) : Wk st Z B F (RZ.ItzT K q q') (zipD ds es) where
  goes := fun Z1 B1 F1 ρ σ H i _ _ l r hi => by
    rw [zipD_length] at hi
    obtain ⟨v, e, _⟩ := p.get (List.getElem?_eq_getElem (show i < ds.length by omega))
    obtain ⟨w, e', _⟩ := p'.get (List.getElem?_eq_getElem (show i < es.length by omega))
    exact ⟨vs, ws, v, w, seqT r.sub (l _ _ h), seqT r.sub (l _ _ h'), e, e'⟩
  stops := fun Z1 B1 F1 ρ σ H _ _ l r => by
    refine ⟨vs, ws, seqT r.sub (l _ _ h), seqT r.sub (l _ _ h'), ?_⟩
    rw [p.length, p'.length, zipD_length]
    omega
  yields := fun Z1 B1 F1 ρ σ H i x H' d _ _ l r e y => by
    obtain ⟨T, v, w, rfl, nT, rfl, y1, y2⟩ := y
    obtain ⟨d1, d2, g1, g2, rfl⟩ := zipD_get e
    obtain ⟨v', e1, e2⟩ := p.get g1
    obtain ⟨w', e3, e4⟩ := p'.get g2
    have f1 := y1 vs (seqT r.sub (l _ _ h))
    have f2 := y2 ws (seqT r.sub (l _ _ h'))
    rw [e1] at f1
    rw [e3] at f2
    cases f1
    cases f2
    have l2 := r.leNew (o := .tup [v, w]) nT
    exact ⟨_, l2, r.new nT, .tup upd_same (by show 2 ≤ sizeLine; decide) (.cons (Rp.mono (l.trans l2) e2) (.cons (Rp.mono (l.trans l2) e4) .nil))⟩
def iZip (fa fb : Fe) : Fi := fun ρ => match fa ρ with
  | some (.tup xs, ρ1) => match fb ρ1 with
    | some (.tup ys, ρ2) => some (zipD xs ys, ρ2)
    | _ => none
  | _ => none
theorem di_zip {elts : List Expr} {k : Nat} {tpos : Pos} (hg : Gl X "zip") (hm : X.mg "zip" = none) (ha : DE X st a fa) (hb : DE X st b fb) (hs : starEach [a, b] X.env = (false, eval a X.env) :: starEach [b] X.env := by rfl)
    (hs2 : starEach [b] X.env = (false, eval b X.env) :: starEach [] X.env := by rfl) (hpl : (backTo pos (starEach [b] X.env)).any (·.1) = false := by rfl) : DI X st (.Tuple elts k tpos) (.Call (.Name "zip" p) [a, b] [] pos) (iZip fa fb) := by
  intro Z B F ρ σ H ds ρ' R r h q
  unfold iZip at h
  split at h
  · rename_i xs ρ1 h1
    split at h
    · rename_i ys ρ2 h2
      cases h
      refine ⟨_, RZ.pi_zipA hg hm (pa_cons pe_w (pa_cons pe_w pa_nil hs2) hs) hs hpl, ?_⟩
      refine ha _ _ _ _ _ _ _ _ _ r h1 fun F1 H1 v l1 r1 p1 => ?_
      refine hb _ _ _ _ _ _ _ _ _ r1 h2 fun F2 H2 w l2 r2 p2 => ?_
      have p1' := Rp.mono l2 p1
      cases p1' with
      | tup e1 e2 e3 =>
        cases p2 with
        | tup e4 e5 e6 =>
          refine ⟨_, _, _, _, rfl, .inr ⟨seqT r2.sub e1, seqT r2.sub e4, ?_⟩⟩
          refine q _ F2 H2 (l1.trans l2) r2 (wk_zipT e1 e3 e4 e6) ?_
          rw [zipD_length, ← e3.length]
          exact Nat.le_trans (Nat.min_le_left _ _) e2
    · cases h
  · cases h

/-! ### for -/
def loopR (step : D → Rho → Option Res) : List D → Rho → Option Res
  | [], ρ => some (.nx ρ)
  | d :: ds, ρ => match step d ρ with
    | some (.nx ρ1) => loopR step ds ρ1
    | some (.rt x ρ1) => some (.rt x ρ1)
    | none => none
/-- one turn: the target, the body; what need not be known behind it is forgotten -/
def turnR (kill : List Nat) (g : Fg) (f : Fs) : D → Rho → Option Res := fun d ρ => match g d ρ with
  | some ρ1 => match f ρ1 with
    | some (.nx ρ2) => some (.nx (wipeR ρ2 kill))
    | some (.rt x ρ2) => some (.rt x ρ2)
    | none => none
  | none => none
def sFor (kill : List Nat) (fi : Fi) (g : Fg) (f : Fs) : Fs := fun ρ => match fi ρ with
  | some (ds, ρ1) => loopR (turnR kill g f) ds (wipeR ρ1 kill)
  | none => none
theorem drop_cons {α : Type} {l : List α} {i : Nat} (h : i < l.length) : l.drop i = l[i] :: l.drop (i + 1) := by
  rw [List.drop_eq_getElem_cons h]
/-- the loop's reading, whatever is walked -/
theorem for_core {Z : Addr → Prop} {B F H : Hp} {ρ : Rho} {σ : L2.St} {tg : Expr} {ss : List Stmt} {kill : List Nat} {g : Fg} {f : Fs} {J : It} {ds : List D} {r : Res} {E : Ends} (hg : DG X st tg g) (hb : DSs X st ss f) (R : Rs st Z B F ρ σ H) (W : Wk st Z B F J ds) (h : loopR (turnR kill g f) ds ρ = some r)
    (q1 : ∀ ρ', r = .nx ρ' → ∀ F' σ' H', Le F F' → Rs st Z B F' ρ' σ' H' → E.nx σ' H') (q2 : ∀ d ρ', r = .rt d ρ' → ∀ F' σ' H' v, Le F F' → Rs st Z B F' ρ' σ' H' → Rp F' v d → E.rt v H') :
    ∃ W : Nat → Nat → L2.St → Hp → Prop, (∃ m, W 0 m σ H) ∧ ∀ i m σ H, W i m σ H →
      (J.stop i H ∧ E.nx σ H) ∨ (J.go i H ∧ ∃ N : L2.St → Hp → Prop, (∀ σ' H', N σ' H' → ∃ m', m' < m ∧ W (i + 1) m' σ' H') ∧ ∀ x H', J.yld i H x H' → WG X tg x σ H' fun σ2 H2 => WSs X ss { E with nx := N, ct := N, bk := E.nx } σ2 H2) := by
  refine ⟨fun i m σ H => m = ds.length - i ∧ i ≤ ds.length ∧ ∃ F1 ρ1, Le F F1 ∧ Rs st Z B F1 ρ1 σ H ∧ loopR (turnR kill g f) (ds.drop i) ρ1 = some r, ⟨ds.length, by simp, Nat.zero_le _, F, ρ, Le.refl F, R, by rw [List.drop_zero]; exact h⟩, ?_⟩
  rintro i m σ H ⟨rfl, hi, F1, ρ1, l1, R1, h1⟩
  by_cases hlt : i < ds.length
  · rw [drop_cons hlt] at h1
    refine .inr ⟨W.goes Z B F1 ρ1 σ H i (fun _ z => z) (fun _ _ z => z) l1 R1 hlt, fun σ' H' => ∃ F2 ρ2, Le F F2 ∧ Rs st Z B F2 ρ2 σ' H' ∧ loopR (turnR kill g f) (ds.drop (i + 1)) ρ2 = some r, fun σ' H' n => ⟨ds.length - (i + 1), by omega, rfl, hlt, n⟩, fun x H' y => ?_⟩
    obtain ⟨F2, l2, R2, p2⟩ := W.yields Z B F1 ρ1 σ H i x H' ds[i] (fun _ z => z) (fun _ _ z => z) l1 R1 (List.getElem?_eq_getElem hlt) y
    unfold loopR turnR at h1
    cases e1 : g ds[i] ρ1 with
    | none =>
      rw [e1] at h1
      cases h1
    | some ρ2 =>
      rw [e1] at h1
      refine hg _ _ _ _ _ _ _ _ _ _ R2 p2 e1 fun F3 σ3 H3 l3 R3 => ?_
      cases e2 : f ρ2 with
      | none =>
        simp only [e2] at h1
        cases h1
      | some res =>
        simp only [e2] at h1
        refine hb _ _ _ _ _ _ _ _ R3 e2 (fun ρ' eq F4 σ4 H4 l4 R4 => ?_) fun d ρ' eq F4 σ4 H4 v l4 R4 p4 => ?_
        · subst eq
          exact ⟨F4, wipeR ρ' kill, ((l1.trans l2).trans l3).trans l4, R4.wipe kill, h1⟩
        · subst eq
          cases h1
          exact q2 d ρ' rfl F4 σ4 H4 v (((l1.trans l2).trans l3).trans l4) R4 p4
  · have e : i = ds.length := by omega
    subst e
    rw [List.drop_length] at h1
    cases h1
    exact .inl ⟨W.stops Z B F1 ρ1 σ H (fun _ z => z) (fun _ _ z => z) l1 R1, q1 ρ1 rfl F1 σ H l1 R1⟩
theorem ds_for (kill : List Nat) {tg iter : Expr} {ss : List Stmt} {fi : Fi} {g : Fg} {f : Fs} (hp : PassesOwn (model X.prog X.w) X.A X.env X.xe) (hc : X.calm = true) (hi : DI X st tg iter fi) (hg : DG X st tg g) (hb : DSs X st ss f)
    (hs : ∀ x, foldedSetIterable iter X.env x = pure x := by intro _; rfl) : DS X st (.For tg iter ss [] pos) (sFor kill fi g f) := by
  intro Z B F ρ σ H r E R h q1 q2
  refine ⟨_, ps_for hp hc pi_w pg_w pss_w hs, ?_⟩
  unfold sFor at h
  split at h
  · rename_i ds ρ1 h1
    refine hi _ _ _ _ _ _ _ _ _ R h1 fun J F1 H1 l1 R1 W _ => ?_
    exact for_core hg hb (R1.wipe kill) W h (fun ρ' eq F2 σ2 H2 l2 R2 => q1 ρ' eq F2 σ2 H2 (l1.trans l2) R2) fun d ρ' eq F2 σ2 H2 v l2 R2 p => q2 d ρ' eq F2 σ2 H2 v (l1.trans l2) R2 p
  · cases h

/-! ### list comprehensions -/
/-- one turn of a comprehension: the target, the test, the item; the block's names are forgotten -/
def compR (vs : List Nat) (g : Fg) (ft : Ft) (fe : Fe) : List D → List D → Rho → Option (List D × Rho)
  | [], acc, ρ => some (acc, ρ)
  | d :: ds, acc, ρ => match g d ρ with
    | some ρ1 => match ft ρ1 with
      | some (true, ρ2) => match fe ρ2 with
        | some (y, ρ3) => compR vs g ft fe ds (acc ++ [y]) (wipeR ρ3 vs)
        | none => none
      | some (false, ρ2) => compR vs g ft fe ds acc (wipeR ρ2 vs)
      | none => none
    | none => none
def eComp (vs : List Nat) (fi : Fi) (g : Fg) (ft : Ft) (fe : Fe) : Fe := fun ρ => match fi ρ with
  | some (ds, ρ1) => match compR vs g ft fe ds [] (wipeR ρ1 vs) with
    | some (ys, ρ2) => some (.lst ys, ρ2)
    | none => none
  | none => none
def tYes' : Ft := fun ρ => some (true, ρ)
/-- the tests of a clause -/
def WTs (X : Cx) (ifs : List Expr) : TT := fun σ H Q => ∃ t, PTs X ifs t ∧ t σ H Q
theorem pts_w {X : Cx} {ifs : List Expr} : PTs X ifs (WTs X ifs) := ⟨fun pins s σ H Q I ⟨_, h, q⟩ => h.run pins s σ H Q I q⟩
def DTs (X : Cx) (st : Option Addr) (ifs : List Expr) (f : Ft) : Prop := ∀ Z B F ρ σ H b ρ' (Q : Bool → Hp → Prop), Rs st Z B F ρ σ H → f ρ = some (b, ρ') → (∀ F' H', Le F F' → Rs st Z B F' ρ' σ H' → Q b H') → WTs X ifs σ H Q
theorem dts_nil : DTs X st [] tYes' := by
  intro Z B F ρ σ H b ρ' Q r h q
  cases h
  exact ⟨_, pts_nil, q F H (Le.refl F) r⟩
theorem dts_one {ft : Ft} (h1 : DT X st c ft) : DTs X st [c] ft := by
  intro Z B F ρ σ H b ρ' Q r h q
  exact ⟨_, pts_one pt_w, h1 _ _ _ _ _ _ _ _ _ r h q⟩
/-- targets of a block change the block's names alone -/
def DGo (X : Cx) (st : Option Addr) (vs : List Nat) (tg : Expr) (g : Fg) : Prop := ∀ Z B F ρ σ H v d ρ' (Q : L2.St → Hp → Prop), Rs st Z B F ρ σ H → Rp F v d → g d ρ = some ρ' → (∀ F' σ' H', Le F F' → Rs st Z B F' ρ' σ' H' → wipe σ' vs = wipe σ vs → Q σ' H') → WG X tg v σ H Q
def DGso (X : Cx) (st : Option Addr) (vs : List Nat) (ts : List Expr) (g : Fgs) : Prop := ∀ Z B F ρ σ H us ds ρ' (Q : L2.St → Hp → Prop), Rs st Z B F ρ σ H → RpA F us ds → g ds ρ = some ρ' → (∀ F' σ' H', Le F F' → Rs st Z B F' ρ' σ' H' → wipe σ' vs = wipe σ vs → Q σ' H') → WGs X ts us σ H Q
theorem wipe_set {i : Nat} {x : Option V} : ∀ (σ : L2.St) (vs : List Nat), i ∈ vs → wipe (σ.set i x) vs = wipe σ vs
  | σ, v :: vs, h => by
    by_cases e : i ∈ vs
    · unfold wipe
      rw [wipe_set σ vs e]
    · have hv : i = v := (List.mem_cons.mp h).resolve_right e
      subst hv
      unfold wipe
      have key : ∀ us : List Nat, i ∉ us → wipe (σ.set i x) us = (wipe σ us).set i x := by
        intro us
        induction us with
        | nil => intro _; rfl
        | cons u us ih =>
          intro hu
          unfold wipe
          rw [ih fun z => hu (List.mem_cons_of_mem _ z)]
          have ne : i ≠ u := fun z => hu (by rw [z]; exact List.mem_cons_self)
          rw [List.set_comm _ _ ne]
      rw [key vs e, List.set_set]
theorem dgo_name (i : Nat) {vs : List Nat} {x : Str} (hN : X.N.Nodup) (hm : i ∈ vs) (hi : X.N[i]? = some x := by rfl) (hx : Loc X.env.scope x := by first | exact Or.inl rfl | exact Or.inr rfl) (hf : X.fn x = true ∨ X.env.scope.names.lookup x = some .local := by first | exact .inl rfl | exact .inr rfl) : DGo X st vs (.Name x pos) (gSet i) := by
  intro Z B F ρ σ H v d ρ' Q r pv h q
  cases h
  exact ⟨_, pg_name hN hi hx hf, q F _ H (Le.refl F) (r.store i pv) (wipe_set σ vs hm)⟩
theorem dgso_nil {vs : List Nat} : DGso X st vs [] gsNil := by
  intro Z B F ρ σ H us ds ρ' Q r pv h q
  unfold gsNil at h
  split at h
  · cases h
    cases pv
    exact ⟨_, pgs_nil, rfl, q F _ H (Le.refl F) r rfl⟩
  · cases h
theorem dgso_cons {vs : List Nat} {ts : List Expr} {t : Expr} {g : Fg} {gs : Fgs} (h1 : DGo X st vs t g) (h2 : DGso X st vs ts gs)
    (hs : (assignEach (t :: ts) X.env).map (·.2) = assign t X.env :: (assignEach ts X.env).map (·.2) := by rfl) : DGso X st vs (t :: ts) (gsCons g gs) := by
  intro Z B F ρ σ H us ds ρ' Q r pv h q
  unfold gsCons at h
  split at h
  · rename_i d ds
    split at h
    · rename_i ρ1 e1
      cases pv with
      | cons p1 p2 =>
        refine ⟨_, pgs_cons pg_w pgs_w hs, _, _, rfl, ?_⟩
        refine h1 _ _ _ _ _ _ _ _ _ _ r p1 e1 fun F1 σ1 H1 l1 r1 w1 => ?_
        exact h2 _ _ _ _ _ _ _ _ _ _ r1 (RpA.mono l1 p2) h fun F2 σ2 H2 l2 r2 w2 => q F2 σ2 H2 (l1.trans l2) r2 (w2.trans w1)
    · cases h
  · cases h
theorem dgo_tup {vs : List Nat} {ts : List Expr} {k n : Nat} {gs : Fgs} (hc : X.calm = true) (h1 : DGso X st vs ts gs) (hn : (assignEach ts X.env).length = n := by rfl) (hst : (assignEach ts X.env).findIdx? (·.1) = none := by rfl) : DGo X st vs (.Tuple ts k pos) (gTupT n gs) := by
  intro Z B F ρ σ H v d ρ' Q r pv h q
  unfold gTupT at h
  split at h
  · rename_i ds
    split at h
    · rename_i hl
      cases pv with
      | tup e1 e2 e3 =>
        refine ⟨_, pg_tup hc pgs_w hn hst, _, _, rfl, seqT r.sub e1, by rw [e3.length, hl], ?_⟩
        exact h1 _ _ _ _ _ _ _ _ _ _ r e3 h q
    · cases h
  · cases h
abbrev Blk (X : Cx) (scope : Scope) (P : Cx → Prop) : Prop := ∀ (s : Shared) (H : Hp) (C : Addr) (cl : List (Str × Addr)) (fp : List Addr), P (X.blk s H scope (compEnvC scope cl C X.env) fp)
def BG (X : Cx) (scope : Scope) (tg : Expr) : TG := fun v σ H Q => ∀ (s : Shared) (H0 : Hp) (C : Addr) (cl : List (Str × Addr)) (fp : List Addr), WG (X.blk s H0 scope (compEnvC scope cl C X.env) fp) tg v σ H Q
def BT (X : Cx) (scope : Scope) (ifs : List Expr) : TT := fun σ H Q => ∀ (s : Shared) (H0 : Hp) (C : Addr) (cl : List (Str × Addr)) (fp : List Addr), WTs (X.blk s H0 scope (compEnvC scope cl C X.env) fp) ifs σ H Q
def BE (X : Cx) (scope : Scope) (e : Expr) : TE := fun σ H Q => ∀ (s : Shared) (H0 : Hp) (C : Addr) (cl : List (Str × Addr)) (fp : List Addr), WE (X.blk s H0 scope (compEnvC scope cl C X.env) fp) e σ H Q
theorem bg_w {scope : Scope} {tg : Expr} (s : Shared) (H0 : Hp) (C : Addr) (cl : List (Str × Addr)) (fp : List Addr) : PG (X.blk s H0 scope (compEnvC scope cl C X.env) fp) tg (BG X scope tg) :=
  ⟨fun pins s' σ H v u Q I r h => pg_w.run pins s' σ H v u Q I r (h s H0 C cl fp)⟩
theorem bt_w {scope : Scope} {ifs : List Expr} (s : Shared) (H0 : Hp) (C : Addr) (cl : List (Str × Addr)) (fp : List Addr) : PTs (X.blk s H0 scope (compEnvC scope cl C X.env) fp) ifs (BT X scope ifs) :=
  ⟨fun pins s' σ H Q I h => pts_w.run pins s' σ H Q I (h s H0 C cl fp)⟩
theorem be_w {scope : Scope} {e : Expr} (s : Shared) (H0 : Hp) (C : Addr) (cl : List (Str × Addr)) (fp : List Addr) : PE (X.blk s H0 scope (compEnvC scope cl C X.env) fp) e (BE X scope e) :=
  ⟨fun pins s' σ H Q I h => pe_w.run pins s' σ H Q I (h s H0 C cl fp)⟩
end
end Kx
set_option Elab.async false
set_option linter.all false
set_option maxRecDepth 100000
set_option maxHeartbeats 4000000
/-! list comprehensions: the rule; a dict walked while it is locked; what defs promise -/
namespace Kx
open PySem PySem.Spec PyProof.Rows L2

section
variable {X : Cx} {st : Option Addr} {K : PySem.W.Frag} {e a b c : Expr} {es : List Expr} {pos p : Pos} {fa fb : Fe}

/-- an object that is kept apart: laid -/
theorem Rs.apart {Z : Addr → Prop} {B F H : Hp} {ρ : Rho} {σ : L2.St} (r : Rs st Z B F ρ σ H) {q : Addr} {o : HO} (h : H q = none) (nt : ∀ xs, o ≠ .tup xs) : Rs st (fun c => Z c ∨ c = q) (upd B q o) F ρ σ (upd H q o) := by
  have hf := r.sub.none h
  have old : ∀ {c u}, H c = some u → c ≠ q := fun {c u} e => ne_of_none e h
  refine ⟨r.len, fun c u e => ?_, ⟨fun c u e => ?_, fun c u e => ?_⟩, fun c z => ?_, fun c z => ?_, fun j t e => ?_, fun j t c e e2 e3 => ?_, r.sep, fun c e => ?_, fun c z xs w => ?_, fun c e xs w => ?_⟩
  · by_cases hc : c = q
    · rw [hc, upd_same] at e
      rw [hc, upd_same]
      exact e
    · rw [upd_ne hc] at e
      rw [upd_ne hc]
      exact r.bh c u e
  · have ne : c ≠ q := fun z => by
      rw [z, hf] at e
      cases e
    unfold Rd
    rw [upd_ne ne]
    exact r.sub.rd c u e
  · have ne : c ≠ q := fun z => by
      rw [z, hf] at e
      cases e
    rw [upd_ne ne]
    exact r.sub.tp c u e
  · rcases z with z | z
    · exact r.zf c z
    · rw [z]
      exact hf
  · by_cases hc : c = q
    · rw [hc]
      exact ⟨o, upd_same⟩
    · rw [upd_ne hc]
      rcases z with z | z
      · exact r.zb c z
      · exact absurd z hc
  · obtain ⟨v, e1, q1⟩ := r.slot j t e
    refine ⟨v, e1, q1.keep (Le.refl F) (fun c e2 e3 => ?_) (fun c e2 e3 => ?_) fun S c _ _ e3 => ?_⟩
    · obtain ⟨c', u, e4, e5, _⟩ := q1.at e3
      rw [e2] at e4
      cases e4
      exact e5
    · obtain ⟨c', u, e4, e5, e6, _⟩ := q1.at e3
      rw [e2] at e4
      cases e4
      rw [upd_ne (old e6)]
    · obtain ⟨_, _, u, e6⟩ := r.stb c e3
      rw [upd_ne (old e6)]
  · obtain ⟨q1, q2⟩ := r.own j t c e e2 e3
    obtain ⟨v, e4, q3⟩ := r.slot j t e
    obtain ⟨c', u, e5, e6, e7, _⟩ := q3.at e2
    rw [e3] at e4
    cases e4
    cases e5
    rw [upd_ne (old e7)]
    exact ⟨q1, q2⟩
  · obtain ⟨q1, q2, u, q3⟩ := r.stb c e
    rw [upd_ne (old q3), upd_ne (old q3)]
    exact ⟨q1, q2, u, q3⟩
  · by_cases hc : c = q
    · rw [hc, upd_same] at w
      exact nt xs (Option.some.inj w)
    · rw [upd_ne hc] at w
      exact r.znt c (z.resolve_right hc) xs w
  · obtain ⟨q1, q2, u, q3⟩ := r.stb c e
    rw [upd_ne (old q3)] at w
    exact r.snt c e xs w
/-- an object that is kept apart: changed -/
theorem Rs.apartSet {Z : Addr → Prop} {B F H : Hp} {ρ : Rho} {σ : L2.St} {q : Addr} {u o : HO} (r : Rs st (fun c => Z c ∨ c = q) (upd B q u) F ρ σ H) (nt : ∀ xs, o ≠ .tup xs) : Rs st (fun c => Z c ∨ c = q) (upd B q o) F ρ σ (upd H q o) := by
  have hf : F q = none := r.zf q (.inr rfl)
  have own : ∀ {j : Nat} {t : Sl} {c : Addr}, ρ[j]? = some (some t) → isO t = true → σ[j]? = some (some (.ref c)) → c ≠ q := fun {j t c} e1 e2 e3 z => by
    have w := (r.own j t c e1 e2 e3).1
    rw [z, upd_same] at w
    cases w
  have stn : ∀ c, st = some c → c ≠ q := fun c e z => by
    have w := (r.stb c e).1
    rw [z, upd_same] at w
    cases w
  refine ⟨r.len, fun c w e => ?_, ⟨fun c w e => ?_, fun c w e => ?_⟩, r.zf, fun c z => ?_, fun j t e => ?_, fun j t c e e2 e3 => ?_, r.sep, fun c e => ?_, fun c z xs w => ?_, fun c e xs w => ?_⟩
  · by_cases hc : c = q
    · rw [hc, upd_same] at e
      rw [hc, upd_same]
      exact e
    · rw [upd_ne hc] at e
      rw [upd_ne hc]
      exact r.bh c w (by rw [upd_ne hc]; exact e)
  · have ne : c ≠ q := fun z => by
      rw [z, hf] at e
      cases e
    unfold Rd
    rw [upd_ne ne]
    exact r.sub.rd c w e
  · have ne : c ≠ q := fun z => by
      rw [z, hf] at e
      cases e
    rw [upd_ne ne]
    exact r.sub.tp c w e
  · by_cases hc : c = q
    · rw [hc]
      exact ⟨o, upd_same⟩
    · have w := r.zb c z
      rw [upd_ne hc] at w ⊢
      exact w
  · obtain ⟨v, e1, q1⟩ := r.slot j t e
    refine ⟨v, e1, q1.keep (Le.refl F) (fun c e2 e3 => ?_) (fun c e2 e3 => ?_) fun S c _ _ e3 => ?_⟩
    · obtain ⟨c', w, e4, e5, _⟩ := q1.at e3
      rw [e2] at e4
      cases e4
      exact e5
    · rw [upd_ne (own e e3 (e2 ▸ e1))]
    · rw [upd_ne (stn c e3)]
  · have ne := own e e2 e3
    have w := r.own j t c e e2 e3
    rw [upd_ne ne] at w ⊢
    exact w
  · have w := r.stb c e
    rw [upd_ne (stn c e)] at w
    rw [upd_ne (stn c e), upd_ne (stn c e)]
    exact w
  · by_cases hc : c = q
    · rw [hc, upd_same] at w
      exact nt xs (Option.some.inj w)
    · refine r.znt c z xs ?_
      rw [upd_ne hc] at w ⊢
      exact w
  · rw [upd_ne (stn c e)] at w
    exact r.snt c e xs w
/-- .. and taken back: it need not be kept any more -/
theorem Rs.apartDrop {Z : Addr → Prop} {B F H : Hp} {ρ : Rho} {σ : L2.St} {q : Addr} {u : HO} (r : Rs st (fun c => Z c ∨ c = q) (upd B q u) F ρ σ H) (hb : B q = none) (hz : ∀ c, Z c → ∃ o, B c = some o) : Rs st Z B F ρ σ H :=
  r.less (fun c o e => by rw [upd_ne (ne_of_none e hb)]; exact e) (fun c z => .inl z) hz
/-- .. as data -/
theorem Rs.apartData {Z : Addr → Prop} {B F H : Hp} {ρ : Rho} {σ : L2.St} {q : Addr} {u : HO} (r : Rs st (fun c => Z c ∨ c = q) (upd B q u) F ρ σ H) (hb : B q = none) (hz : ∀ c, Z c → ∃ o, B c = some o) (nt : ∀ xs, u ≠ .tup xs) : Rs st Z B (upd F q u) ρ σ H := by
  have hf : F q = none := r.zf q (.inr rfl)
  have hh : H q = some u := r.bh q u upd_same
  have r0 := r.apartDrop hb hz
  have zq : ∀ c, Z c → c ≠ q := fun c z e => by
    obtain ⟨o, w⟩ := hz c z
    rw [e, hb] at w
    cases w
  have own : ∀ {j : Nat} {t : Sl} {c : Addr}, ρ[j]? = some (some t) → isO t = true → σ[j]? = some (some (.ref c)) → c ≠ q := fun {j t c} e1 e2 e3 z => by
    have w := (r.own j t c e1 e2 e3).1
    rw [z, upd_same] at w
    cases w
  have stn : ∀ c, st = some c → c ≠ q := fun c e z => by
    have w := (r.stb c e).1
    rw [z, upd_same] at w
    cases w
  refine ⟨r0.len, r0.bh, ⟨fun c w e => ?_, fun c w e => ?_⟩, fun c z => ?_, r0.zb, fun j t e => ?_, r0.own, r0.sep, fun c e => ?_, r0.znt, r0.snt⟩
  · by_cases hc : c = q
    · rw [hc, upd_same] at e
      cases e
      rw [hc]
      exact .inl hh
    · rw [upd_ne hc] at e
      exact r.sub.rd c w e
  · by_cases hc : c = q
    · rw [hc, upd_same] at e
      exact absurd (Option.some.inj e) (nt w)
    · rw [upd_ne hc] at e
      exact r.sub.tp c w e
  · rw [upd_ne (zq c z)]
    exact r0.zf c z
  · obtain ⟨v, e1, q1⟩ := r0.slot j t e
    refine ⟨v, e1, q1.keep (Le.upd hf) (fun c e2 e3 => ?_) (fun _ _ _ => rfl) fun _ _ _ _ _ => rfl⟩
    obtain ⟨c', w, e4, e5, _⟩ := q1.at e3
    rw [e2] at e4
    cases e4
    rw [upd_ne (own e e3 (e2 ▸ e1))]
    exact e5
  · have w := r0.stb c e
    rw [upd_ne (stn c e)]
    exact w

theorem wipe_idem : ∀ (σ : L2.St) (vs : List Nat), wipe (wipe σ vs) vs = wipe σ vs := by
  intro σ vs
  have key : ∀ (us : List Nat) (τ : L2.St), (∀ i ∈ us, i < τ.length → τ[i]? = some none) → wipe τ us = τ := by
    intro us
    induction us with
    | nil => intro τ _; rfl
    | cons u us ih =>
      intro τ h
      unfold wipe
      rw [ih τ fun i hi => h i (List.mem_cons_of_mem _ hi)]
      by_cases hu : u < τ.length
      · have e := h u List.mem_cons_self hu
        apply List.ext_getElem?
        intro j
        by_cases hj : u = j
        · subst hj
          rw [List.getElem?_set_self hu, e]
        · rw [List.getElem?_set_ne hj]
      · exact List.set_eq_of_length_le (by omega)
  refine key vs _ fun i hi hl => ?_
  cases e : (wipe σ vs)[i]? with
  | none =>
    have := List.getElem?_eq_none_iff.mp e
    omega
  | some o =>
    cases o with
    | none => rfl
    | some v => exact absurd hi (wipe_some e).2
/-- the reading of a comprehension -/
theorem comp_core {Z : Addr → Prop} {B F H : Hp} {ρ ρ' : Rho} {σ : L2.St} {scope : Scope} {elt tg iter : Expr} {ifs : List Expr} {vs : List Nat} {fi : Fi} {g : Fg} {ft : Ft} {fe : Fe} {ys : List D} {Q : VK}
    (hi : DI X st tg iter fi) (hg : Blk X scope fun Y => DGo Y st vs tg g) (ht : Blk X scope fun Y => DTs Y st ifs ft) (he : Blk X scope fun Y => DE Y st elt fe) (R : Rs st Z B F ρ σ H) (h : eComp vs fi g ft fe ρ = some (.lst ys, ρ'))
    (q : ∀ F' H' v, Le F F' → Rs st Z B F' ρ' σ H' → Rp F' v (.lst ys) → Q v H') : tLc (WI X tg iter) (BG X scope tg) (BT X scope ifs) (BE X scope elt) vs σ H Q := by
  unfold eComp at h
  split at h
  · rename_i ds ρ1 h1
    split at h
    · rename_i zs ρ2 h2
      cases h
      refine hi _ _ _ _ _ _ _ _ _ R h1 fun J F1 H1 l1 R1 W hz D hD => ?_
      have hbD := R1.bn hD
      refine ⟨fun i m H' => m = ds.length - i ∧ i ≤ ds.length ∧ ∃ F2 ρb accV acc, Le F1 F2 ∧ Rs st (fun c => Z c ∨ c = D) (upd B D (.lst accV)) F2 (wipeR ρb vs) (wipe σ vs) H' ∧ RpA F2 accV acc ∧ acc.length ≤ i ∧ compR vs g ft fe (ds.drop i) acc (wipeR ρb vs) = some (ys, ρ'),
        ⟨ds.length, by simp, Nat.zero_le _, F1, ρ1, [], [], Le.refl _, (R1.wipe2 vs).apart hD (fun xs z => nomatch z), .nil, Nat.le_refl _, by rw [List.drop_zero]; exact h2⟩, ?_⟩
      rintro i m H2 ⟨rfl, hle, F2, ρb, accV, acc, l2, R2, pa, hacc, h3⟩
      by_cases hlt : i < ds.length
      · rw [drop_cons hlt] at h3
        refine .inr ⟨W.goes _ _ F2 _ _ H2 i (fun _ z => .inl z) (fun c o e => by rw [upd_ne (ne_of_none e hbD)]; exact e) l2 R2 hlt, fun H' => ∃ F3 ρb accV acc, Le F1 F3 ∧ Rs st (fun c => Z c ∨ c = D) (upd B D (.lst accV)) F3 (wipeR ρb vs) (wipe σ vs) H' ∧ RpA F3 accV acc ∧ acc.length ≤ i + 1 ∧ compR vs g ft fe (ds.drop (i + 1)) acc (wipeR ρb vs) = some (ys, ρ'),
          fun H' n => ⟨ds.length - (i + 1), by omega, rfl, hlt, n⟩, fun x H3 y s0 H0 C cl fp => ?_⟩
        obtain ⟨F3, l3, R3, p3⟩ := W.yields _ _ F2 _ _ H2 i x H3 ds[i] (fun _ z => .inl z) (fun c o e => by rw [upd_ne (ne_of_none e hbD)]; exact e) l2 R2 (List.getElem?_eq_getElem hlt) y
        unfold compR at h3
        cases e1 : g ds[i] (wipeR ρb vs) with
        | none =>
          rw [e1] at h3
          cases h3
        | some ρ3 =>
          rw [e1] at h3
          refine hg s0 H0 C cl fp _ _ _ _ _ _ _ _ _ _ R3 p3 e1 fun F4 σ4 H4 l4 R4 w4 => ?_
          rw [wipe_idem] at w4
          refine ⟨w4, fun s1 H0' C' cl' fp' => ?_⟩
          cases e2 : ft ρ3 with
          | none =>
            simp only [e2] at h3
            cases h3
          | some bp =>
            obtain ⟨bv, ρ4⟩ := bp
            refine ht s1 H0' C' cl' fp' _ _ _ _ _ _ _ _ _ R4 e2 fun F5 H5 l5 R5 => ?_
            have l15 : Le F1 F5 := ((l2.trans l3).trans l4).trans l5
            cases bv with
            | false =>
              simp only [e2] at h3
              rw [if_neg Bool.false_ne_true]
              refine ⟨F5, ρ4, accV, acc, l15, ?_, pa.mono ((l3.trans l4).trans l5), Nat.le_succ_of_le hacc, h3⟩
              rw [← w4]
              exact R5.wipe2 vs
            | true =>
              simp only [e2] at h3
              rw [if_pos rfl]
              intro s2 H0'' C'' cl'' fp''
              cases e3 : fe ρ4 with
              | none =>
                rw [e3] at h3
                cases h3
              | some yp =>
                obtain ⟨yv, ρ5⟩ := yp
                rw [e3] at h3
                refine he s2 H0'' C'' cl'' fp'' _ _ _ _ _ _ _ _ _ R5 e3 fun F6 H6 w l6 R6 p6 => ?_
                have hz1 : accV.length < sizeLine := by rw [pa.length]; exact Nat.lt_of_le_of_lt hacc (Nat.lt_of_lt_of_le hlt hz)
                refine ⟨accV, R6.bh D _ upd_same, hz1, F6, ρ5, accV ++ [w], acc ++ [yv], l15.trans l6, ?_, RpA.append (pa.mono (((l3.trans l4).trans l5).trans l6)) (.cons p6 .nil), by rw [List.length_append]; exact Nat.succ_le_succ hacc, h3⟩
                have R7 := R6.wipe2 vs
                rw [w4] at R7
                exact R7.apartSet fun xs z => nomatch z
      · have e : i = ds.length := by omega
        subst e
        rw [List.drop_length] at h3
        cases h3
        refine .inl ⟨W.stops _ _ F2 _ _ H2 (fun _ z => .inl z) (fun c o e => by rw [upd_ne (ne_of_none e hbD)]; exact e) l2 R2, ?_⟩
        have lz : accV.length ≤ sizeLine := by rw [pa.length]; exact Nat.le_trans hacc hz
        have hfD : F2 D = none := R2.zf D (.inr rfl)
        refine q (upd F2 D (.lst accV)) H2 (.ref D) ((l1.trans l2).trans (Le.upd hfD)) ?_ (.lst upd_same lz (pa.mono (Le.upd hfD)))
        exact Rs.unwipe (R2.apartData hbD R1.zb fun xs z => nomatch z)
    · cases h
  · cases h
theorem de_comp {elt tg iter : Expr} {ifs : List Expr} {scope : Scope} {own : List (Str × Nat)} {fi : Fi} {g : Fg} {ft : Ft} {fe : Fe} (hc : X.calm = true) (hN : X.N.Nodup) (ok : BlkOk X.N X.env.scope scope own)
    (hi : DI X st tg iter fi) (hg : Blk X scope fun Y => DGo Y st (own.map (·.2)) tg g) (ht : Blk X scope fun Y => DTs Y st ifs ft) (he : Blk X scope fun Y => DE Y st elt fe) (hs : ∀ x, foldedSetIterable iter X.env x = pure x := by intro _; rfl) :
    DE X st (.ListComp elt [⟨tg, iter, ifs, 0⟩] scope pos) (eComp (own.map (·.2)) fi g ft fe) := by
  intro Z B F ρ σ H d ρ' Q r h q
  refine ⟨_, pe_lc hc hN pi_w ok bg_w bt_w be_w hs, ?_⟩
  have hd : ∃ ys, d = .lst ys := by
    unfold eComp at h
    split at h
    · split at h
      · cases h
        exact ⟨_, rfl⟩
      · cases h
    · cases h
  obtain ⟨ys, rfl⟩ := hd
  exact comp_core hi hg ht he r h q
theorem ds_setLc (i : Nat) {y : Str} {py spos : Pos} {elt tg iter : Expr} {ifs : List Expr} {scope : Scope} {own : List (Str × Nat)} {fi : Fi} {g : Fg} {ft : Ft} {fe : Fe} (hc : X.calm = true) (hN : X.N.Nodup) (ok : BlkOk X.N X.env.scope scope own)
    (hi : DI X st tg iter fi) (hg : Blk X scope fun Y => DGo Y st (own.map (·.2)) tg g) (ht : Blk X scope fun Y => DTs Y st ifs ft) (he : Blk X scope fun Y => DE Y st elt fe) (hy : X.N[i]? = some y := by rfl) (hyl : X.env.scope.names.lookup y = some .local := by rfl)
    (hsw : swapsWith (.ListComp elt [⟨tg, iter, ifs, 0⟩] scope pos) (some (.Name y py)) spos.line X.env = pure true := by exact sw_true rfl rfl rfl (by decide +kernel)) (hs : ∀ x, foldedSetIterable iter X.env x = pure x := by intro _; rfl) :
    DS X st (.Assign [.Name y py] (.ListComp elt [⟨tg, iter, ifs, 0⟩] scope pos) spos) (sSet i (eComp (own.map (·.2)) fi g ft fe)) := by
  intro Z B F ρ σ H r E R h q1 q2
  refine ⟨_, ps_setLc hc hN hy hyl hsw pi_w ok bg_w bt_w be_w hs, ?_⟩
  unfold sSet at h
  split at h
  · rename_i d ρ1 h1
    cases h
    have hd : ∃ ys, d = .lst ys := by
      unfold eComp at h1
      split at h1
      · split at h1
        · cases h1
          exact ⟨_, rfl⟩
        · cases h1
      · cases h1
    obtain ⟨ys, rfl⟩ := hd
    exact comp_core hi hg ht he R h1 fun F1 H1 v l1 R1 p => q1 _ rfl F1 _ H1 l1 (R1.store i p)
  · cases h

/-! ### a dict's keys -/
def keyD (p : Int × Int) : D := .tup [.int p.1, .int p.2]
/-- the dict at q is locked in B -/
theorem wk_keys {Z : Addr → Prop} {B F : Hp} {q : Addr} {od : Obj} {es : List (List Key × V)} {kvs : List ((Int × Int) × D)} (h : B q = some (.frz od (.dT es))) (p : RpK F es kvs) : Wk st Z B F (Itkt q od es) (kvs.map fun kv => keyD kv.1) where
  goes := fun Z1 B1 F1 ρ σ H i _ hb l r hi => by
    rw [List.length_map, ← p.length] at hi
    exact ⟨r.bh _ _ (hb _ _ h), hi⟩
  stops := fun Z1 B1 F1 ρ σ H _ hb l r => by
    rw [List.length_map, ← p.length]
    exact ⟨r.bh _ _ (hb _ _ h), Nat.le_refl _⟩
  yields := fun Z1 B1 F1 ρ σ H i x H' d _ hb l r e y => by
    obtain ⟨rfl, k, v, t, e1, rfl, e2⟩ := y
    rw [List.getElem?_map] at e
    cases ek : kvs[i]? with
    | none =>
      rw [ek] at e
      cases e
    | some kv =>
      rw [ek] at e
      cases e
      obtain ⟨v2, e3, _⟩ := p.get (p := kv.1) (d := kv.2) ek
      rw [e1] at e3
      cases e3
      rw [kk_map] at e2
      -- the key's own tuple becomes data
      have own : ∀ {j : Nat} {s : Sl}, ρ[j]? = some (some s) → isO s = true → σ[j]? ≠ some (some (.ref t)) := fun {j s} g1 g2 g3 => by
        obtain ⟨v3, g4, g5⟩ := r.slot j s g1
        rw [g3] at g4
        cases g4
        obtain ⟨c, u, g6, g7, g8, g9⟩ := g5.at g2
        cases g6
        rw [e2] at g8
        cases g8
        exact g9
      cases hF : F1 t with
      | some u =>
        have l2 : u = .tup [.int kv.1.1, .int kv.1.2] := by
          rcases r.sub.rd t u hF with w | ⟨o, w⟩
          · rw [e2] at w
            exact (Option.some.inj w).symm
          · rw [e2] at w
            cases w
        subst l2
        exact ⟨F1, Le.refl _, r, .tup hF (by show 2 ≤ sizeLine; decide) (.cons (.int _) (.cons (.int _) .nil))⟩
      | none =>
        by_cases hz : Z1 t
        · obtain ⟨o, w⟩ := r.zb t hz
          have w2 := r.bh t o w
          rw [e2] at w2
          cases w2
          exact absurd w (r.znt t hz _)
        · by_cases hst : st = some t
          · exact absurd e2 (r.snt t hst _)
          · refine ⟨upd F1 t (.tup [.int kv.1.1, .int kv.1.2]), Le.upd hF, ?_, .tup upd_same (by show 2 ≤ sizeLine; decide) (.cons (.int _) (.cons (.int _) .nil))⟩
            refine ⟨r.len, r.bh, ⟨fun c u g => ?_, fun c u g => ?_⟩, fun c g => ?_, r.zb, fun j s g => ?_, r.own, r.sep, fun c g => ?_, r.znt, r.snt⟩
            · by_cases hc : c = t
              · rw [hc, upd_same] at g
                cases g
                rw [hc]
                exact .inl e2
              · rw [upd_ne hc] at g
                exact r.sub.rd c u g
            · by_cases hc : c = t
              · rw [hc, upd_same] at g
                cases g
                rw [hc]
                exact e2
              · rw [upd_ne hc] at g
                exact r.sub.tp c u g
            · rw [upd_ne fun w => hz (by rw [← w]; exact g)]
              exact r.zf c g
            · obtain ⟨v3, g1, g2⟩ := r.slot j s g
              refine ⟨v3, g1, g2.keep (Le.upd hF) (fun c g3 g4 => ?_) (fun _ _ _ => rfl) fun _ _ _ _ _ => rfl⟩
              obtain ⟨c', u, g5, g6, _⟩ := g2.at g4
              rw [g3] at g5
              cases g5
              rw [upd_ne fun w => own g g4 (by rw [g1, g3, w])]
              exact g6
            · have w := r.stb c g
              rw [upd_ne fun z => hst (by rw [g, z])]
              exact w
end
end Kx
set_option Elab.async false
set_option linter.all false
set_option maxRecDepth 100000
set_option maxHeartbeats 4000000
/-! dict comprehensions whose keys are tuples; loops over a dict's keys -/
namespace Kx
open PySem PySem.Spec PyProof.Rows L2

/-- a store into a dict with tuple keys, as a comprehension does it -/
theorem putByComp {X : Cx} {pins : List (Addr × Obj)} {σ : L2.St} {H : Hp} {s : Shared} {E : Value → Shared → Prop} {Dd b : Addr} {kvs : List (List Key × V)} {k : List Key} {v : V} {r : Value} {Q : Unit → Shared → Prop} {A : Around} (hu : A.units + 1 < cLine)
    (I : Inv X pins σ H s) (hD : H Dd = some (.dT kvs)) (hz : kvs.length < sizeLine) (hb : H b = some (.tup (k.map kV))) (rv : RelV v r) (h : ∀ s', Inv X pins σ (upd H Dd (.dT (putK kvs k v))) s' → Q () s') : wpAny (model X.prog X.w) A (dictSet Dd (.ref b) r) Q E s := by
  obtain ⟨z, hd, xs, rel, dd⟩ := dt_of I.hok hD
  have hsz : xs.length ≤ sizeLine := Paired.length rel ▸ z
  have hl : (putK kvs k v).length ≤ sizeLine := Nat.le_trans (length_putK kvs k v) hz
  refine wpAny_dictSet_heap (hsz := hsz) (show (tupleKind (mixKind X.prog X.w)).room A from by first | exact tupleKind_room_in1 hu | exact hu | exact Nat.lt_of_succ_lt hu) (key_of I.hok hb) dd fun h' dd' hs => h _ ?_
  obtain ⟨q, es, ep, hq, h2, h3, h4, _, h5⟩ := dd'
  exact d_write I (by rw [hD]; trivial) hs ⟨q, hq⟩ ⟨hl, hd, _, (rel.put k hb rv).keeps fun c ys ec => (upd_ne (ne_of ec hD fun z => nomatch z)).trans ec, q, es, ep, hq, h2, h3, h4, h5⟩

section
variable {X : Cx} {st : Option Addr} {K : PySem.W.Frag} {e a b c : Expr} {es : List Expr} {pos p : Pos} {fa fb : Fe}
/-- {k: v for target in iter}, the keys tuples -/
def tDcT (wi : TI) (g : TG) (tk tv : TE) (vs : List Nat) : TE := fun σ H Q => wi σ H fun J H1 => ∀ q, H1 q = none → ∃ W : Nat → Nat → Hp → Prop, (∃ m, W 0 m (upd H1 q (.dT []))) ∧ ∀ i m H, W i m H →
  (J.stop i H ∧ Q (.ref q) H) ∨ (J.go i H ∧ ∃ Nx : Hp → Prop, (∀ H', Nx H' → ∃ m', m' < m ∧ W (i + 1) m' H') ∧ ∀ x H', J.yld i H x H' → g x (wipe σ vs) H' fun σ2 H2 => wipe σ2 vs = wipe σ vs ∧
    tk σ2 H2 fun y H4 => tv σ2 H4 fun z H5 => ∃ (t : Addr) (kvs : List (List Key × V)) (k : List Key), y = .ref t ∧ H5 t = some (.tup (k.map kV)) ∧ H5 q = some (.dT kvs) ∧ kvs.length < sizeLine ∧ Nx (upd H5 q (.dT (putK kvs k z))))
theorem dcT_core {pins : List (Addr × Obj)} {s : Shared} {σ : L2.St} {H : Hp} {Q : VK} {kx vx tg iter : Expr} {scope : Scope} {own : List (Str × Nat)} {pos pos' : Pos} {wi : TI} {g : TG} {tk tv : TE} {use : Option (Value → Sem Unit)} {Qf : Value → Shared → Prop}
    (hu : X.A.units + 1 < cLine) (hc : X.calm = true) (hN : X.N.Nodup) (I : Inv X pins σ H s) (hi : PI X tg iter wi) (ok : BlkOk X.N X.env.scope scope own) (hg : Blk X scope fun Y => PG Y tg g) (hk : Blk X scope fun Y => PE Y kx tk) (hv : Blk X scope fun Y => PE Y vx tv)
    (hs : ∀ x, foldedSetIterable iter X.env x = pure x) (h : tDcT wi g tk tv (own.map (·.2)) σ H Q)
    (fin : ∀ q C s' m H', Inv X pins σ H' s' → Q (.ref q) H' → s'.heap.Ns C m → FpOk X pins H' C → compPost (model X.prog X.w) X.A X.xe use Qf (.ref q) C (.ok .next) s') :
    wpAny (model X.prog X.w) X.A (comprehension (.DictComp kx vx [⟨tg, iter, [], 0⟩] scope pos) scope X.env pos' newDict false (eval iter X.env) use) Qf X.xe s := by
  have cells : ∀ y ∈ scope.names, y.2 = .free → ∃ c, X.env.cells.lookup y.1 = some c := fun y hy e => (ok.free y hy e).elim (fun k => I.ok.has _ (.inl k)) fun k => I.ok.has _ (.inr k)
  have walked := hi.run pins s σ H _ I h
  refine wpAny_comprehension_free (use := use) rfl hs (closure_ok cells) ok.kind (fun y hy e => (ok.uniq y hy).trans (congrArg some e)) (thn walked fun xv s1 hx => thn hx ?_)
  rintro itv s2 ⟨it, fp, tn, J, H2, rfl, I2, T, st2, f2, q⟩
  refine wpAny_newObj_type (newEnv_comp ?_)
  -- the new dict at n, behind it the block
  let n := s2.heap.objs.size
  let s3 : Shared := { s2 with heap := s2.heap.push { cls := .type "dict", data := .dict #[] } }
  let H3 := upd H2 n (.dT [])
  let cl := cellsFrom (s3.heap.objs.size + 1) scope.names (cloFrom X.env.cells scope.names [])
  let ce := compEnvC scope cl s3.heap.objs.size X.env
  let s4 : Shared := { s3 with heap := pushCells (s3.heap.push { cls := .type "dict", data := .dict #[] }) scope.names }
  have hn : H2 n = none := I2.hok.fresh (Nat.le_refl _)
  obtain ⟨W, ⟨m0, w0⟩, turn⟩ := q n hn
  have I3 : Inv X pins σ H3 s3 := I2.laid (t' := s2.toks) (fun b o e => Heap.get?_push_of_some _ e) (Nat.le_refl _) (dt_empty s2.heap I2.big)
  have low : ∀ b ∈ fp, b < s2.heap.objs.size := fun b hb => let ⟨o, e, _⟩ := T.obj _ _ st2 b hb; Heap.lt_size e
  have f3 : ∀ b ∈ fp, FpOk X pins H3 b ∧ b < s3.heap.objs.size := fun b hb => by
    refine ⟨⟨(upd_ne (Nat.ne_of_lt (low b hb))).trans (f2 b hb).1, (f2 b hb).2⟩, ?_⟩
    show b < (s2.heap.push _).objs.size
    rw [Heap.size_push]
    exact Nat.lt_succ_of_lt (low b hb)
  have st3 : tn 0 s3.heap := T.keep _ _ _ st2 fun b _ o e => Heap.get?_push_of_some _ e
  have I4 : Inv (X.blk s3 H3 scope ce fp) [] (wipe σ (own.map (·.2))) H3 s4 := block_start I3 ok hN f3
  have st4 : tn 0 s4.heap := T.keep _ _ _ st3 fun b _ o e => pushCells_keeps _ _ _ _ (Heap.get?_push_of_some _ e)
  have stay : ∀ {σ' : L2.St} {H' : Hp} {s' : Shared}, Inv (X.blk s3 H3 scope ce fp) [] σ' H' s' → (∀ b ∈ fp, H' b = none) → ∀ b ∈ fp, FpOk (X.blk s3 H3 scope ce fp) [] H' b := fun {σ' H' s'} J' nn b hb =>
    ⟨nn b hb, (J'.ok.exf b hb).1, J'.ok.exfs b hb, .inl hb, fun x c e => (J'.ok.exf b hb).2 x c e, fun p hp => absurd (show p ∈ ([] : List (Addr × Obj)) ++ [] from hp) (by simp)⟩
  have loop : codeAny (model X.prog X.w) X.A (.compLoop (.DictComp kx vx [⟨tg, iter, [], 0⟩] scope pos) 0 (.ref it) (.ref n) ce) (compPost (model X.prog X.w) X.A X.xe use Qf (.ref n) s3.heap.objs.size) s4 := by
    refine compLoop_anyD (fun m s' => ∃ i H', Inv (X.blk s3 H3 scope ce fp) [] (wipe σ (own.map (·.2))) H' s' ∧ tn i s'.heap ∧ (∀ b ∈ fp, H' b = none) ∧ W i m H') ?_ m0 ⟨0, H3, I4, st4, fun b hb => (f3 b hb).1.1, w0⟩
    rintro m s5 ⟨i, H5, I5, st5, n5, w5⟩
    rcases turn i m H5 w5 with ⟨stop, qq⟩ | ⟨go, Nx, hNx, step⟩
    · have done := T.done (X.blk s3 H3 scope ce fp) rfl rfl rfl hc i [] s5 _ H5 (fun _ _ => False) I5 (stay I5 n5) st5 stop
      refine thnF done ?_
      rintro r s6 ⟨rfl, I6⟩
      have back : Inv X pins σ H5 s6 := I3.call' (ch := fp) I6.os I6.base I6.hok I6.bare fun b hb => let z := (f3 b hb).1; ⟨z.2.2.2.1, z.2.1, z.2.2.2.2.1, z.2.2.2.2.2⟩
      obtain ⟨mm, hm, _⟩ := I6.loc
      exact fin n s3.heap.objs.size s6 mm H5 back qq hm (I3.fpOk (Nat.le_refl _) I6.free)
    · have item := T.item (X.blk s3 H3 scope ce fp) rfl rfl rfl hc i [] s5 _ H5 (fun _ _ => False) I5 (stay I5 n5) st5 go
      refine thnF item ?_
      rintro r s6 ⟨u, rfl, h6⟩
      refine thnF h6 ?_
      rintro _ s7 ⟨x, H7, I7, r7, y7, st7, n7⟩
      have P7 := I7.pinned (stay I7 n7) (T.obj _ _ st7)
      refine thnF ((hg s3 H3 s3.heap.objs.size cl fp).run _ s7 _ H7 x u _ P7 r7 (step x H7 y7)) ?_
      rintro _ s8 ⟨σ8, H8, I8, hw8, q8⟩
      refine wpAny_tests_nil ?_
      simp only [if_true]
      refine thnF ((hk s3 H3 s3.heap.objs.size cl fp).run _ s8 σ8 H8 _ I8 q8) ?_
      rintro kv s9 ⟨yk, H9, I9, r9, q9⟩
      refine thnF ((hv s3 H3 s3.heap.objs.size cl fp).run _ s9 σ8 H9 _ I9 q9) ?_
      rintro vv s10 ⟨yv, H10, I10, r10, t, kvs, k, rfl, ht, hq, hz, nx⟩
      cases (show kv = Value.ref t from r9)
      refine putByComp (X := X.blk s3 H3 scope ce fp) hu I10 hq hz ht r10 fun s11 I11 => ?_
      obtain ⟨m', hm, w'⟩ := hNx _ nx
      have len8 : (wipe σ (own.map (·.2))).length = σ8.length := by rw [← hw8, wipe_length]
      have pin : ∀ b ∈ fp, ∀ o, s7.heap.get? b = some o → s11.heap.get? b = some o ∧ (upd H10 n (.dT (putK kvs k yv))) b = none := fun b hb o e =>
        let z := I11.pin (b, o) (List.mem_append_right _ (List.mem_append_right _ (mem_pinsAt hb e)))
        ⟨z.1, z.2.1⟩
      refine ⟨m', hm, i + 1, _, (I11.unpinned (pins := [])).weak len8 (fun j v e => (wipe_some (hw8 ▸ e)).1), T.keep _ _ _ st7 fun b hb o e => (pin b hb o e).1, fun b hb => ?_, w'⟩
      obtain ⟨o, e, _⟩ := T.obj _ _ st7 b hb
      exact (pin b hb o e).2
  exact codeAny_compStart_dict loop (T.self X.A 0 _ _ _ st4 loop)
/-- y = {..}, y a local -/
theorem ps_setDcT {i : Nat} {y : Str} {py : Pos} {kx vx tg iter : Expr} {scope : Scope} {own : List (Str × Nat)} {pos spos : Pos} {wi : TI} {g : TG} {tk tv : TE} (hu : X.A.units + 1 < cLine) (hc : X.calm = true) (hN : X.N.Nodup) (hy : X.N[i]? = some y) (hyl : X.env.scope.names.lookup y = some .local)
    (hsw : swapsWith (.DictComp kx vx [⟨tg, iter, [], 0⟩] scope pos) (some (.Name y py)) spos.line X.env = pure true) (hi : PI X tg iter wi) (ok : BlkOk X.N X.env.scope scope own) (hg : Blk X scope fun Y => PG Y tg g) (hk : Blk X scope fun Y => PE Y kx tk) (hv : Blk X scope fun Y => PE Y vx tv)
    (hs : ∀ x, foldedSetIterable iter X.env x = pure x) : PS X (.Assign [.Name y py] (.DictComp kx vx [⟨tg, iter, [], 0⟩] scope pos) spos) (tAsg (tDcT wi g tk tv (own.map (·.2))) (gName i)) := by
  refine ⟨fun pins s σ H E I h => ?_⟩
  rw [exec_Assign_Name_used _ _ _ _ hsw]
  refine wpAny_bind (wpAny_standAt (wpAny_bind ?_))
  show wpAny _ X.A (do let _ ← comprehension (.DictComp kx vx [⟨tg, iter, [], 0⟩] scope pos) scope X.env (firstIterPos [⟨tg, iter, [], 0⟩] pos) newDict false (eval iter X.env) (some (assign (.Name y py) X.env))) _ _ s
  have h' : tDcT wi g tk tv (own.map (·.2)) σ H (fun x H1 => gName i x σ H1 E.nx) := h
  have run := dcT_core (Qf := fun _ s' => SP X pins E .next s') (use := some (assign (.Name y py) X.env)) (pos' := firstIterPos [⟨tg, iter, [], 0⟩] pos) (pos := pos) hu hc hN I hi ok hg hk hv hs h' fun q C s' m H' I' w hn f => by
    show wpAny _ _ (assign (.Name y py) X.env (.ref q)) _ _ _
    refine wpAny_assign_Name (store_ok2 (v := V.ref q) I' hN hy (.inl hyl) rfl (fun s2 J2 hsb => ?_) (.inr hyl))
    obtain ⟨d, sb, hd⟩ := hsb
    have apart : C ≠ d := by
      rcases hd with z | z
      · exact z ▸ f.2.1
      · exact fun e => f.2.2.2.2.1 y d z e.symm
    exact ⟨m, hn.sameBut sb apart, fun h3 sb3 => ⟨_, H', J2.turned (t' := s2.toks) (fun b o hb e => (sb3.2 b hb).trans e) f.1 f.2.1 f.2.2.2.1 f.2.2.2.2.1 f.2.2.2.2.2, w⟩⟩
  exact wpAny_bind (thn run fun _ s' hq => wpAny_pure (wpAny_pure hq))
theorem swD_true {kx vx : Expr} {gs : List Comprehension} {scope : Scope} {pos py : Pos} {y : Str} {l : Nat} {env : Env} (hk : env.scope.kind = .function) (hy : env.scope.names.lookup y = some .local) (hl : (py.line == pos.line) = true)
    (ha : (scope.names.any fun (n, k) => n == y && (k == .local || k == .cell)) = false) : swapsWith (.DictComp kx vx gs scope pos) (some (.Name y py)) l env = pure true := by
  have ky : env.kindOf y = some .local := hy
  have hb : env.blockKind = .function := by
    unfold Env.blockKind
    rw [hk]
    rfl
  unfold swapsWith
  simp only [hb, ky, ha, Expr.pos, hl]
  rfl
end
end Kx
set_option Elab.async false
set_option linter.all false
set_option maxRecDepth 100000
set_option maxHeartbeats 4000000
/-! loops over a dict's keys, dicts made by comprehensions, bodies of defs -/
namespace Kx
open PySem PySem.Spec PyProof.Rows L2

section
variable {X : Cx} {st : Option Addr} {K : PySem.W.Frag} {e a b c : Expr} {es : List Expr} {pos p : Pos} {fa fb : Fe}

theorem freeze_at {Z : Addr → Prop} {B F H : Hp} {ρ ρ' : Rho} {σ : L2.St} {i : Nat} {d : D} (r : Rs st Z B F ρ σ H) (h : freeze i ρ = some (d, ρ')) : ∃ v F1, σ[i]? = some (some v) ∧ Le F F1 ∧ Rs st Z B F1 ρ' σ H ∧ Rp F1 v d := by
  unfold Kx.freeze at h
  split at h
  · rename_i d' e
    cases h
    obtain ⟨v, e1, e2⟩ := r.slot i _ e
    exact ⟨v, F, e1, Le.refl F, r, e2⟩
  · rename_i ds e
    cases h
    obtain ⟨v, e1, b, vs, e2, e3, e4, e5, e6⟩ := r.slot i _ e
    subst e2
    have h6 : Rp (upd F b (.lst vs)) (.ref b) (.lst ds) := .lst upd_same e5 (RpA.mono (Le.upd e3) e6)
    exact ⟨_, _, e1, Le.upd e3, r.freeze e rfl e1 e4 e3 (fun xs z => nomatch z) h6, h6⟩
  · rename_i ds e
    cases h
    obtain ⟨v, e1, b, vs, e2, e3, e4, e5, e6⟩ := r.slot i _ e
    subst e2
    have h6 : Rp (upd F b (.dT vs)) (.ref b) (.dct ds) := .dct upd_same e5 (RpK.mono (Le.upd e3) e6)
    exact ⟨_, _, e1, Le.upd e3, r.freeze e rfl e1 e4 e3 (fun xs z => nomatch z) h6, h6⟩
  · cases h
/-- what stands at q, which is data, is locked -/
theorem Rs.lock {Z : Addr → Prop} {B F H : Hp} {ρ : Rho} {σ : L2.St} (r : Rs st Z B F ρ σ H) {q : Addr} {u : HO} (h : F q = some u) (nt : ∀ xs, u ≠ .tup xs) (od : Obj) : Rs st Z (upd B q (.frz od u)) F ρ σ (upd H q (.frz od u)) := by
  have nz : ∀ c, Z c → c ≠ q := fun c z e => by
    have w := r.zf c z
    rw [e, h] at w
    cases w
  have ns : ∀ c, st = some c → c ≠ q := fun c z e => by
    have w := (r.stb c z).2.1
    rw [e, h] at w
    cases w
  have no : ∀ {j : Nat} {t : Sl} {v : V} {c : Addr}, σ[j]? = some (some v) → RpS st F H v t → isO t = true → v = .ref c → c ≠ q := fun {j t v c} _ w o e z => by
    obtain ⟨c', w1, e1, e2, _⟩ := w.at o
    rw [e] at e1
    cases e1
    rw [z, h] at e2
    cases e2
  refine ⟨r.len, fun c w e => ?_, ⟨fun c w e => ?_, fun c w e => ?_⟩, r.zf, fun c z => ?_, fun j t e => ?_, fun j t c e e2 e3 => ?_, r.sep, fun c e => ?_, fun c z xs w => ?_, fun c e xs w => ?_⟩
  · by_cases hc : c = q
    · rw [hc, upd_same] at e
      rw [hc, upd_same]
      exact e
    · rw [upd_ne hc] at e
      rw [upd_ne hc]
      exact r.bh c w e
  · by_cases hc : c = q
    · rw [hc, h] at e
      cases e
      rw [hc]
      exact .inr ⟨od, upd_same⟩
    · unfold Rd
      rw [upd_ne hc]
      exact r.sub.rd c w e
  · have hc : c ≠ q := fun z => by
      rw [z, h] at e
      exact nt w (Option.some.inj e)
    rw [upd_ne hc]
    exact r.sub.tp c w e
  · rw [upd_ne (nz c z)]
    exact r.zb c z
  · obtain ⟨v, e1, q1⟩ := r.slot j t e
    refine ⟨v, e1, q1.keep (Le.refl F) (fun c e2 e3 => ?_) (fun c e2 e3 => ?_) fun S c _ _ e3 => ?_⟩
    · obtain ⟨c', w, e4, e5, _⟩ := q1.at e3
      rw [e2] at e4
      cases e4
      exact e5
    · rw [upd_ne (no e1 q1 e3 e2)]
    · rw [upd_ne (ns c e3)]
  · obtain ⟨v, e4, q1⟩ := r.slot j t e
    rw [e3] at e4
    cases e4
    rw [upd_ne (no e3 q1 e2 rfl)]
    exact r.own j t c e e2 e3
  · rw [upd_ne (ns c e), upd_ne (ns c e)]
    exact r.stb c e
  · rw [upd_ne (nz c z)] at w
    exact r.znt c z xs w
  · rw [upd_ne (ns c e)] at w
    exact r.snt c e xs w
/-- .. and let go -/
theorem Rs.unlock {Z : Addr → Prop} {B F H : Hp} {ρ : Rho} {σ : L2.St} {q : Addr} {u : HO} {od : Obj} (r : Rs st Z (upd B q (.frz od u)) F ρ σ H) (h : F q = some u) (nt : ∀ xs, u ≠ .tup xs) (hb : ∀ o, B q = some o → o = u) : Rs st Z B F ρ σ (upd H q u) := by
  have nz : ∀ c, Z c → c ≠ q := fun c z e => by
    have w := r.zf c z
    rw [e, h] at w
    cases w
  have ns : ∀ c, st = some c → c ≠ q := fun c z e => by
    have w := (r.stb c z).2.1
    rw [e, h] at w
    cases w
  have no : ∀ {j : Nat} {t : Sl} {v : V} {c : Addr}, σ[j]? = some (some v) → RpS st F H v t → isO t = true → v = .ref c → c ≠ q := fun {j t v c} _ w o e z => by
    obtain ⟨c', w1, e1, e2, _⟩ := w.at o
    rw [e] at e1
    cases e1
    rw [z, h] at e2
    cases e2
  refine ⟨r.len, fun c w e => ?_, ⟨fun c w e => ?_, fun c w e => ?_⟩, r.zf, fun c z => ?_, fun j t e => ?_, fun j t c e e2 e3 => ?_, r.sep, fun c e => ?_, fun c z xs w => ?_, fun c e xs w => ?_⟩
  · by_cases hc : c = q
    · rw [hc] at e
      rw [hc, upd_same, hb w e]
    · rw [upd_ne hc]
      exact r.bh c w (by rw [upd_ne hc]; exact e)
  · by_cases hc : c = q
    · rw [hc, h] at e
      cases e
      rw [hc]
      exact .inl upd_same
    · unfold Rd
      rw [upd_ne hc]
      exact r.sub.rd c w e
  · have hc : c ≠ q := fun z => by
      rw [z, h] at e
      exact nt w (Option.some.inj e)
    rw [upd_ne hc]
    exact r.sub.tp c w e
  · have w := r.zb c z
    rw [upd_ne (nz c z)] at w
    exact w
  · obtain ⟨v, e1, q1⟩ := r.slot j t e
    refine ⟨v, e1, q1.keep (Le.refl F) (fun c e2 e3 => ?_) (fun c e2 e3 => ?_) fun S c _ _ e3 => ?_⟩
    · obtain ⟨c', w, e4, e5, _⟩ := q1.at e3
      rw [e2] at e4
      cases e4
      exact e5
    · rw [upd_ne (no e1 q1 e3 e2)]
    · rw [upd_ne (ns c e3)]
  · obtain ⟨v, e4, q1⟩ := r.slot j t e
    rw [e3] at e4
    cases e4
    have w := r.own j t c e e2 e3
    rw [upd_ne (no e3 q1 e2 rfl)] at w
    exact w
  · have w := r.stb c e
    rw [upd_ne (ns c e)] at w
    rw [upd_ne (ns c e)]
    exact w
  · refine r.znt c z xs ?_
    rw [upd_ne (nz c z)]
    exact w
  · rw [upd_ne (ns c e)] at w
    exact r.snt c e xs w
/-- a statement that begins with a walk over the keys of the dict in slot i: it runs with the dict locked -/
theorem locked {Z : Addr → Prop} {B F H : Hp} {ρ ρ' : Rho} {σ : L2.St} {s : Stmt} {i : Nat} {kvs : List ((Int × Int) × D)} {r : Res} {E : Ends} {t : TS} (hp : PS X s t) (R : Rs st Z B F ρ σ H) (h : freeze i ρ = some (.dct kvs, ρ'))
    (q1 : ∀ ρ', r = .nx ρ' → ∀ F' σ' H', Le F F' → Rs st Z B F' ρ' σ' H' → E.nx σ' H') (q2 : ∀ d ρ', r = .rt d ρ' → ∀ F' σ' H' v, Le F F' → Rs st Z B F' ρ' σ' H' → Rp F' v d → E.rt v H')
    (hr : ∀ (E' : Ends) B1 F1 H1 q od es, Le F F1 → σ[i]? = some (some (.ref q)) → F1 q = some (.dT es) → RpK F1 es kvs → es.length ≤ sizeLine → H1 q = some (.frz od (.dT es)) → B1 q = some (.frz od (.dT es)) → Rs st Z B1 F1 ρ' σ H1 →
      (∀ ρ', r = .nx ρ' → ∀ F' σ' H', Le F1 F' → Rs st Z B1 F' ρ' σ' H' → E'.nx σ' H') → (∀ d ρ', r = .rt d ρ' → ∀ F' σ' H' v, Le F1 F' → Rs st Z B1 F' ρ' σ' H' → Rp F' v d → E'.rt v H') → t E' σ H1) : WS X s E σ H := by
  obtain ⟨v, F1, e1, l1, R1, p1⟩ := freeze_at R h
  cases p1 with
  | @dct q es _ f1 f2 f3 =>
    rcases R1.sub.rd q _ f1 with w | ⟨od, w⟩
    · -- not locked yet
      refine ⟨_, ps_lock hp, q, .dT es, w, trivial, fun od => ?_⟩
      have hb : ∀ o, B q = some o → o = .dT es := fun o z => by
        have z2 := R1.bh q o z
        rw [w] at z2
        exact (Option.some.inj z2).symm
      have RL := R1.lock f1 (fun xs z => nomatch z) od
      refine hr _ (upd B q (.frz od (.dT es))) F1 _ q od es l1 e1 f1 f3 f2 upd_same upd_same RL (fun ρ2 eq F' σ' H' l R' => ?_) fun d ρ2 eq F' σ' H' v l R' p => ?_
      · exact ⟨R'.bh q _ upd_same, q1 ρ2 eq F' σ' _ (l1.trans l) (R'.unlock (l _ _ f1) (fun xs z => nomatch z) hb)⟩
      · exact ⟨R'.bh q _ upd_same, q2 d ρ2 eq F' σ' _ v (l1.trans l) (R'.unlock (l _ _ f1) (fun xs z => nomatch z) hb) p⟩
    · refine ⟨_, hp, ?_⟩
      -- locked already: it is kept as it is
      have RB : Rs st Z (upd B q (.frz od (.dT es))) F1 ρ' σ H := by
        have RL := R1.lock f1 (fun xs z => nomatch z) od
        have eH : upd H q (.frz od (.dT es)) = H := by
          funext c
          by_cases hc : c = q
          · rw [hc, upd_same, w]
          · rw [upd_ne hc]
        rw [eH] at RL
        exact RL
      refine hr E (upd B q (.frz od (.dT es))) F1 H q od es l1 e1 f1 f3 f2 w upd_same RB (fun ρ2 eq F' σ' H' l R' => q1 ρ2 eq F' σ' H' (l1.trans l) ?_) fun d ρ2 eq F' σ' H' v l R' p => q2 d ρ2 eq F' σ' H' v (l1.trans l) ?_ p
      all_goals
        refine R'.less (fun c o z => ?_) (fun c z => z) R1.zb
        by_cases hc : c = q
        · rw [hc, upd_same, ← w]
          rw [hc] at z
          exact R1.bh q o z
        · rw [upd_ne hc]
          exact z
/-- for target in a dict -/
def sForK (kill : List Nat) (i : Nat) (g : Fg) (f : Fs) : Fs := fun ρ => match freeze i ρ with
  | some (.dct kvs, ρ1) => loopR (turnR kill g f) (kvs.map fun kv => keyD kv.1) (wipeR ρ1 kill)
  | _ => none
theorem ds_forK (kill : List Nat) (i : Nat) {x : Str} {py : Pos} {tg : Expr} {ss : List Stmt} {g : Fg} {f : Fs} (hp : PassesOwn (model X.prog X.w) X.A X.env X.xe) (hc : X.calm = true) (hg : DG X st tg g) (hb : DSs X st ss f) (hN : X.N[i]? = some x := by rfl) (hv : Vis X.env.scope x := by first | exact Or.inl rfl | exact Or.inr (Or.inl rfl) | exact Or.inr (Or.inr rfl)) (hd : (x == ("__debug__" : Str)) = false := by decide)
    (hcd : (x == ("__classdict__" : Str)) = false := by decide) (hs : ∀ y, foldedSetIterable (.Name x py) X.env y = pure y := by intro _; rfl) : DS X st (.For tg (.Name x py) ss [] pos) (sForK kill i g f) := by
  intro Z B F ρ σ H r E R h q1 q2
  unfold sForK at h
  split at h
  · rename_i kvs ρ1 h1
    refine locked (ps_for hp hc (pi_keys (pe_var (i := i) hN hv hd hcd)) pg_w pss_w hs) R h1 q1 q2 fun E' B1 F1 H1 q od es l1 e1 f1 f3 f2 w wb R1 k1 k2 => ?_
    refine ⟨_, e1, q, od, rfl, .inr ⟨es, w, ?_⟩⟩
    exact for_core hg hb (R1.wipe kill) (wk_keys wb f3) h k1 k2
  · cases h

/-! ### y = {..} -/
def dcompR (vs : List Nat) (g : Fg) (fk fv : Fe) : List D → List ((Int × Int) × D) → Rho → Option (List ((Int × Int) × D) × Rho)
  | [], acc, ρ => some (acc, ρ)
  | d :: ds, acc, ρ => match g d ρ with
    | some ρ1 => match fk ρ1 with
      | some (y, ρ2) => match dKey y with
        | some k => match fv ρ2 with
          | some (z, ρ3) => dcompR vs g fk fv ds (dPut acc k z) (wipeR ρ3 vs)
          | none => none
        | none => none
      | none => none
    | none => none
theorem dPut_length (kvs : List ((Int × Int) × D)) (p : Int × Int) (d : D) : (dPut kvs p d).length ≤ kvs.length + 1 := by
  unfold dPut
  split
  · rw [List.length_map]
    exact Nat.le_succ _
  · rw [List.length_append]
    exact Nat.le_refl _
theorem dcomp_core {Z : Addr → Prop} {B F H : Hp} {ρ1 ρ' : Rho} {σ : L2.St} {scope : Scope} {kx vx tg : Expr} {vs : List Nat} {g : Fg} {fk fv : Fe} {J : It} {ds : List D} {zs : List ((Int × Int) × D)} {Q : Addr → Hp → Prop}
    (hg : Blk X scope fun Y => DGo Y st vs tg g) (hk : Blk X scope fun Y => DE Y st kx fk) (hv : Blk X scope fun Y => DE Y st vx fv) (R1 : Rs st Z B F ρ1 σ H) (W : Wk st Z B F J ds) (hz : ds.length ≤ sizeLine) (h2 : dcompR vs g fk fv ds [] (wipeR ρ1 vs) = some (zs, ρ'))
    (q : ∀ F' H' es D0, Le F F' → Rs st (fun c => Z c ∨ c = D0) (upd B D0 (.dT es)) F' ρ' σ H' → B D0 = none → RpK F' es zs → es.length ≤ sizeLine → Q D0 H') :
    ∀ D0, H D0 = none → ∃ W : Nat → Nat → Hp → Prop, (∃ m, W 0 m (upd H D0 (.dT []))) ∧ ∀ i m H, W i m H →
      (J.stop i H ∧ Q D0 H) ∨ (J.go i H ∧ ∃ Nx : Hp → Prop, (∀ H', Nx H' → ∃ m', m' < m ∧ W (i + 1) m' H') ∧ ∀ x H', J.yld i H x H' → BG X scope tg x (wipe σ vs) H' fun σ2 H2 => wipe σ2 vs = wipe σ vs ∧
        BE X scope kx σ2 H2 fun y H4 => BE X scope vx σ2 H4 fun z H5 => ∃ (t : Addr) (kvs : List (List Key × V)) (k : List Key), y = .ref t ∧ H5 t = some (.tup (k.map kV)) ∧ H5 D0 = some (.dT kvs) ∧ kvs.length < sizeLine ∧ Nx (upd H5 D0 (.dT (putK kvs k z)))) := by
  intro D0 hD
  have hbD := R1.bn hD
  refine ⟨fun i m H' => m = ds.length - i ∧ i ≤ ds.length ∧ ∃ F2 ρb es acc, Le F F2 ∧ Rs st (fun c => Z c ∨ c = D0) (upd B D0 (.dT es)) F2 (wipeR ρb vs) (wipe σ vs) H' ∧ RpK F2 es acc ∧ acc.length ≤ i ∧ dcompR vs g fk fv (ds.drop i) acc (wipeR ρb vs) = some (zs, ρ'),
    ⟨ds.length, by simp, Nat.zero_le _, F, ρ1, [], [], Le.refl _, (R1.wipe2 vs).apart hD (fun xs z => nomatch z), .nil, Nat.le_refl _, by rw [List.drop_zero]; exact h2⟩, ?_⟩
  rintro i m H2 ⟨rfl, hle, F2, ρb, es, acc, l2, R2, pa, hacc, h3⟩
  by_cases hlt : i < ds.length
  · rw [drop_cons hlt] at h3
    refine .inr ⟨W.goes _ _ F2 _ _ H2 i (fun _ z => .inl z) (fun c o e => by rw [upd_ne (ne_of_none e hbD)]; exact e) l2 R2 hlt, fun H' => ∃ F3 ρb es acc, Le F F3 ∧ Rs st (fun c => Z c ∨ c = D0) (upd B D0 (.dT es)) F3 (wipeR ρb vs) (wipe σ vs) H' ∧ RpK F3 es acc ∧ acc.length ≤ i + 1 ∧ dcompR vs g fk fv (ds.drop (i + 1)) acc (wipeR ρb vs) = some (zs, ρ'),
      fun H' n => ⟨ds.length - (i + 1), by omega, rfl, hlt, n⟩, fun x H3 y s0 H0 C cl fp => ?_⟩
    obtain ⟨F3, l3, R3, p3⟩ := W.yields _ _ F2 _ _ H2 i x H3 ds[i] (fun _ z => .inl z) (fun c o e => by rw [upd_ne (ne_of_none e hbD)]; exact e) l2 R2 (List.getElem?_eq_getElem hlt) y
    unfold dcompR at h3
    split at h3
    · rename_i ρ3 e1
      split at h3
      · rename_i yv ρ4 e2
        split at h3
        · rename_i k ek
          split at h3
          · rename_i zv ρ5 e3
            refine hg s0 H0 C cl fp _ _ _ _ _ _ _ _ _ _ R3 p3 e1 fun F4 σ4 H4 l4 R4 w4 => ?_
            rw [wipe_idem] at w4
            refine ⟨w4, fun s1 H0' C' cl' fp' => ?_⟩
            refine hk s1 H0' C' cl' fp' _ _ _ _ _ _ _ _ _ R4 e2 fun F5 H5 wk l5 R5 p5 => ?_
            intro s2 H0'' C'' cl'' fp''
            refine hv s2 H0'' C'' cl'' fp'' _ _ _ _ _ _ _ _ _ R5 e3 fun F6 H6 w l6 R6 p6 => ?_
            obtain ⟨t, rfl, et⟩ := (Rp.mono l6 p5).key R6.sub ek
            have l26 : Le F2 F6 := ((l3.trans l4).trans l5).trans l6
            have hz1 : es.length < sizeLine := by rw [pa.length]; exact Nat.lt_of_le_of_lt hacc (Nat.lt_of_lt_of_le hlt hz)
            refine ⟨t, es, kk k, rfl, et, R6.bh D0 _ upd_same, hz1, F6, ρ5, putK es (kk k) w, dPut acc k zv, l2.trans l26, ?_, (pa.mono l26).put p6 k, Nat.le_trans (dPut_length acc k zv) (Nat.succ_le_succ hacc), h3⟩
            have R7 := R6.wipe2 vs
            rw [w4] at R7
            exact R7.apartSet fun xs z => nomatch z
          · cases h3
        · cases h3
      · cases h3
    · cases h3
  · have e : i = ds.length := by omega
    subst e
    rw [List.drop_length] at h3
    cases h3
    refine .inl ⟨W.stops _ _ F2 _ _ H2 (fun _ z => .inl z) (fun c o e => by rw [upd_ne (ne_of_none e hbD)]; exact e) l2 R2, ?_⟩
    have lz : es.length ≤ sizeLine := by rw [pa.length]; exact Nat.le_trans hacc hz
    exact q F2 H2 es D0 l2 (Rs.unwipe R2) hbD pa lz
/-- what was kept apart is owned by a slot -/
theorem Rs.apartOwn {Z : Addr → Prop} {B F H : Hp} {ρ : Rho} {σ : L2.St} {q : Addr} {u : HO} {s : Sl} (r : Rs st (fun c => Z c ∨ c = q) (upd B q u) F ρ σ H) (hb : B q = none) (hz : ∀ c, Z c → ∃ o, B c = some o) (i : Nat) (hs : RpS st F H (.ref q) s) : Rs st Z B F (ρ.set i (some s)) (σ.set i (some (.ref q))) H := by
  have r0 := r.apartDrop hb hz
  have own : ∀ {j : Nat} {t : Sl} {c : Addr}, ρ[j]? = some (some t) → isO t = true → σ[j]? = some (some (.ref c)) → c ≠ q := fun {j t c} e1 e2 e3 z => by
    have w := (r.own j t c e1 e2 e3).1
    rw [z, upd_same] at w
    cases w
  refine ⟨by rw [List.length_set, List.length_set]; exact r0.len, r0.bh, r0.sub, r0.zf, r0.zb, fun j t e => ?_, fun j t c e e2 e3 => ?_, fun j k t t' c e e' o o' q1 q2 => ?_, r0.stb, r0.znt, r0.snt⟩
  · rcases get_set e with ⟨rfl, e2, hl⟩ | ⟨ne, e2⟩
    · cases e2
      exact ⟨_, List.getElem?_set_self (by rw [← r0.len]; exact hl), hs⟩
    · obtain ⟨w, e3, q1⟩ := r0.slot j t e2
      exact ⟨w, by rw [List.getElem?_set_ne (Ne.symm ne)]; exact e3, q1⟩
  · rcases get_set e with ⟨rfl, e4, hl⟩ | ⟨ne, e4⟩
    · rw [List.getElem?_set_self (by rw [← r0.len]; exact hl)] at e3
      cases e3
      refine ⟨hb, fun z => ?_⟩
      have w := (r.stb _ z).1
      rw [upd_same] at w
      cases w
    · rw [List.getElem?_set_ne (Ne.symm ne)] at e3
      exact r0.own j t c e4 e2 e3
  · rcases get_set e with ⟨rfl, e4, hl⟩ | ⟨ne, e4⟩
    · rw [List.getElem?_set_self (by rw [← r0.len]; exact hl)] at q1
      cases q1
      rcases get_set e' with ⟨rfl, e5, _⟩ | ⟨ne', e5⟩
      · rfl
      · rw [List.getElem?_set_ne (Ne.symm ne')] at q2
        exact absurd rfl (own e5 o' q2)
    · rw [List.getElem?_set_ne (Ne.symm ne)] at q1
      rcases get_set e' with ⟨rfl, e5, hl⟩ | ⟨ne', e5⟩
      · rw [List.getElem?_set_self (by rw [← r0.len]; exact hl)] at q2
        cases q2
        exact absurd rfl (own e4 o q1)
      · rw [List.getElem?_set_ne (Ne.symm ne')] at q2
        exact r0.sep j k t t' c e4 e5 o o' q1 q2
/-- y = {.. for target in range(..)}, and the like -/
def sSetDc (i : Nat) (vs : List Nat) (fi : Fi) (g : Fg) (fk fv : Fe) : Fs := fun ρ => match fi ρ with
  | some (ds, ρ1) => match dcompR vs g fk fv ds [] (wipeR ρ1 vs) with
    | some (kvs, ρ2) => some (.nx (ρ2.set i (some (.od kvs))))
    | none => none
  | none => none
theorem ds_setDc (i : Nat) {y : Str} {py spos : Pos} {kx vx tg iter : Expr} {scope : Scope} {own : List (Str × Nat)} {fi : Fi} {g : Fg} {fk fv : Fe} (hu : X.A.units + 1 < cLine) (hc : X.calm = true) (hN : X.N.Nodup) (ok : BlkOk X.N X.env.scope scope own)
    (hi : DI X st tg iter fi) (hg : Blk X scope fun Y => DGo Y st (own.map (·.2)) tg g) (hk : Blk X scope fun Y => DE Y st kx fk) (hv : Blk X scope fun Y => DE Y st vx fv) (hy : X.N[i]? = some y := by rfl) (hyl : X.env.scope.names.lookup y = some .local := by rfl)
    (hsw : swapsWith (.DictComp kx vx [⟨tg, iter, [], 0⟩] scope pos) (some (.Name y py)) spos.line X.env = pure true := by exact swD_true rfl rfl rfl (by decide +kernel)) (hs : ∀ x, foldedSetIterable iter X.env x = pure x := by intro _; rfl) :
    DS X st (.Assign [.Name y py] (.DictComp kx vx [⟨tg, iter, [], 0⟩] scope pos) spos) (sSetDc i (own.map (·.2)) fi g fk fv) := by
  intro Z B F ρ σ H r E R h q1 q2
  refine ⟨_, ps_setDcT hu hc hN hy hyl hsw pi_w ok bg_w be_w be_w hs, ?_⟩
  unfold sSetDc at h
  split at h
  · rename_i ds ρ1 h1
    split at h
    · rename_i kvs ρ2 h2
      cases h
      refine hi _ _ _ _ _ _ _ _ _ R h1 fun J F1 H1 l1 R1 W hz => ?_
      exact dcomp_core (Q := fun D0 H' => gName i (.ref D0) σ H' E.nx) hg hk hv R1 W hz h2 fun F' H' es D0 l R' hb pk lz =>
        q1 _ rfl F' _ H' (l1.trans l) (R'.apartOwn hb R1.zb i ⟨D0, es, rfl, R'.zf D0 (.inr rfl), R'.bh D0 _ upd_same, lz, pk⟩)
    · cases h
  · cases h
/-- y = {.. for target in d} -/
def sSetDcK (i j : Nat) (vs : List Nat) (g : Fg) (fk fv : Fe) : Fs := fun ρ => match freeze j ρ with
  | some (.dct kvs, ρ1) => match dcompR vs g fk fv (kvs.map fun kv => keyD kv.1) [] (wipeR ρ1 vs) with
    | some (kvs, ρ2) => some (.nx (ρ2.set i (some (.od kvs))))
    | none => none
  | _ => none
theorem ds_setDcK (i j : Nat) {y x : Str} {py px spos : Pos} {kx vx tg : Expr} {scope : Scope} {own : List (Str × Nat)} {g : Fg} {fk fv : Fe} (hu : X.A.units + 1 < cLine) (hc : X.calm = true) (hN : X.N.Nodup) (ok : BlkOk X.N X.env.scope scope own)
    (hg : Blk X scope fun Y => DGo Y st (own.map (·.2)) tg g) (hk : Blk X scope fun Y => DE Y st kx fk) (hv : Blk X scope fun Y => DE Y st vx fv) (hNx : X.N[j]? = some x := by rfl) (hvx : Vis X.env.scope x := by first | exact Or.inl rfl | exact Or.inr (Or.inl rfl) | exact Or.inr (Or.inr rfl)) (hd : (x == ("__debug__" : Str)) = false := by decide)
    (hcd : (x == ("__classdict__" : Str)) = false := by decide) (hy : X.N[i]? = some y := by rfl) (hyl : X.env.scope.names.lookup y = some .local := by rfl)
    (hsw : swapsWith (.DictComp kx vx [⟨tg, .Name x px, [], 0⟩] scope pos) (some (.Name y py)) spos.line X.env = pure true := by exact swD_true rfl rfl rfl (by decide +kernel)) (hs : ∀ w, foldedSetIterable (.Name x px) X.env w = pure w := by intro _; rfl) :
    DS X st (.Assign [.Name y py] (.DictComp kx vx [⟨tg, .Name x px, [], 0⟩] scope pos) spos) (sSetDcK i j (own.map (·.2)) g fk fv) := by
  intro Z B F ρ σ H r E R h q1 q2
  unfold sSetDcK at h
  split at h
  · rename_i kvs ρ1 h1
    split at h
    · rename_i kvs2 ρ2 h2
      cases h
      refine locked (ps_setDcT hu hc hN hy hyl hsw (pi_keys (pe_var (i := j) hNx hvx hd hcd)) ok bg_w be_w be_w hs) R h1 q1 q2 fun E' B1 F1 H1 q od es l1 e1 f1 f3 f2 w wb R1 k1 k2 => ?_
      refine ⟨_, e1, q, od, rfl, .inr ⟨es, w, ?_⟩⟩
      refine dcomp_core (Q := fun D0 H' => gName i (.ref D0) σ H' E'.nx) hg hk hv R1 (wk_keys wb f3) (by rw [List.length_map, ← f3.length]; exact f2) h2 fun F' H' es D0 l R' hb pk lz =>
        k1 _ rfl F' _ H' l (R'.apartOwn hb R1.zb i ⟨D0, es, rfl, R'.zf D0 (.inr rfl), R'.bh D0 _ upd_same, lz, pk⟩)
    · cases h
  · cases h
end
end Kx
set_option Elab.async false
set_option linter.all false
set_option maxRecDepth 100000
set_option maxHeartbeats 4000000
/-! enumerate(tuple); tuple[::-1] -/
namespace Kx
open PySem PySem.Spec PyProof.Rows L2

/-! ### enumerate of anything that begins: one argument -/
theorem enum_new1 {v : Value} {o : Obj} {P : Heap → Prop} (B : Begins v o P) :
    Meets (Builtin.«enumerate.__new__» ⟨[.type "enumerate", v], []⟩) (fun _ R s => P s.heap ∧
      R (.ok (.ret (.ref (s.heap.push o).objs.size))) { s with heap := (s.heap.push o).push { cls := .type "enumerate", data := .fields #[.none, .bool false, .ref s.heap.objs.size, rawInt 0, .none, .none] } }) :=
  .of_wp fun prog w A R s h => by
    obtain ⟨hp, g, d, tk, os⟩ := s
    obtain ⟨h1, h⟩ := h
    have hsub := sub_enumerate
    have it1 : ∀ {A' : Around} {E : Value → Shared → Prop} {Q : Value → Shared → Prop}, Q (.ref hp.objs.size) ⟨hp.push o, g, d, tk, os⟩ → wpAny (model prog w) A' (pyIter v) Q E ⟨hp, g, d, tk, os⟩ :=
      fun q => B.iter prog w _ _ ⟨hp, g, d, tk, os⟩ _ h1 q
    wp_walk using it1
    refine wpAny_stack_any fun st => wpAny_pure ?_
    split
    · rename_i c _ _ _ _ _
      cases (c == Value.type "enumerate")
      all_goals
        wp_walk using it1
        exact ⟨_, rfl, h⟩
    · wp_walk using it1
      exact ⟨_, rfl, h⟩
section
variable {prog : Program} {w : World} {A : Around} {E : Value → Shared → Prop} {s : Shared}
theorem enum_call1 {v : Value} {o : Obj} {P : Heap → Prop} {Q : Value → Shared → Prop} (B : Begins v o P) (h1 : P s.heap)
    (h : ∀ h', IsEnum h' (s.heap.objs.size + 1) s.heap.objs.size 0 .none → h'.get? s.heap.objs.size = some o → (∀ b u, s.heap.get? b = some u → h'.get? b = some u) → Q (.ref (s.heap.objs.size + 1)) { s with heap := h' }) :
    wpAny (model prog w) A (call (.type "enumerate") [v]) Q E s := by
  refine callType_new F.called_enumerate (by decide) (F.typeCall_enumerate_1 _) (F.newCall_enumerate_1 _) (fun obj => F.args_object_init_2 obj _) F.entry_enumerate_new (enum_new1 B) ⟨h1, ?_⟩
  let en : Obj := { cls := .type "enumerate", data := .fields #[.none, .bool false, .ref s.heap.objs.size, rawInt 0, .none, .none] }
  have hz : (s.heap.push o).objs.size = s.heap.objs.size + 1 := Heap.size_push ..
  have he : ((s.heap.push o).push en).get? (s.heap.objs.size + 1) = some en := by
    rw [← hz]
    exact Heap.get?_push_size _ rfl
  show _ ∧ _
  rw [hz]
  exact ⟨⟨_, he, rfl⟩, h _ he (Heap.get?_push_of_some _ (Heap.get?_push_size _ B.free)) fun b u x => Heap.get?_push_of_some _ (Heap.get?_push_of_some _ x)⟩
end
/-- the tuple at a, each item in a new pair -/
def IteT (K : PySem.W.Frag) (a : Addr) : It where
  go := fun i H => ∃ (xs : List V) (x : V), SqT K H a xs ∧ xs[i]? = some x
  yld := fun i H v H' => ∃ T x, v = .ref T ∧ H T = none ∧ H' = upd H T (.tup [.int (i : Nat), x]) ∧ ∀ xs, SqT K H a xs → xs[i]? = some x
  stop := fun i H => ∃ xs : List V, SqT K H a xs ∧ xs.length = i
theorem turn_enumT {P : Program} {w : World} {K : PySem.W.Frag} {elts : List Expr} {kk : Nat} {tpos : Pos} (a e it : Addr) (d1 : e ≠ it) (d2 : e ≠ a) (d3 : a ≠ it) :
    Turn P w K (.Tuple elts kk tpos) (IteT K a) [e, it] e (fun i h => (∃ old, IsEnum h e it ((i : Nat) : Int) old) ∧ h.IsTupleIter it a i) where
  mem := by simp
  obj := fun i h st b hb => by
    obtain ⟨⟨old, he⟩, ⟨o, ho, hc, hd⟩⟩ := st
    rcases List.mem_cons.mp hb with z | z
    · subst z
      exact ⟨_, he, fun v q => nomatch q⟩
    · have z' := List.mem_singleton.mp z
      subst z'
      exact ⟨o, ho, fun v q => by rw [hd] at q; cases q⟩
  keep := fun i h h' st k => by
    obtain ⟨⟨old, he⟩, hi⟩ := st
    exact ⟨⟨old, k e (by simp) _ he⟩, hi.at fun o q => k it (by simp) o q⟩
  item := by
    rintro X rfl rfl rfl hc i pins s σ H E I hf ⟨⟨old, he⟩, hit⟩ ⟨xs, x, hq, hx⟩
    obtain ⟨its, rv, p, hz⟩ := I.tuple hq
    obtain ⟨u, hu, ru⟩ := rv.get hx
    have hlt : i < its.toArray.size := by
      rw [List.size_toArray, ← rv.length]
      exact (List.getElem?_eq_some_iff.mp hx).1
    have dr := Draws.tuple (prog := X.prog) (w := X.w) (A := X.A.in1) (show X.A.in1.handled = none from I.ok.hd hc) it a d3 its.toArray
    have hel : e < s.heap.objs.size := Heap.lt_size he
    have hil : it < s.heap.objs.size := by
      obtain ⟨_, q, _⟩ := hit
      exact Heap.lt_size q
    refine wpAny_pyNext_enum_itemD dr he ⟨hit, p⟩ hlt d1 (by simp [d1, d2]) fun y h' tk hy ho st' hT hsz hk => ?_
    have ey : y = u := by
      have q1 : its[i]? = some y := by simpa using hy
      rw [hu] at q1
      exact (Option.some.inj q1).symm
    subst ey
    refine ⟨_, rfl, wpAny_letOwnedTupleGo_enum (s := { s with heap := h', toks := tk + 1 }) ho fun h'' he' sb => ?_⟩
    let T := s.heap.objs.size
    have hT2 : h''.get? T = some { cls := .type "tuple", data := .seq #[.int i tk, y] } := (sb.2 T (Nat.ne_of_gt hel)).trans hT
    have new : ObjOk X.prog X.w (upd H T (.tup [.int (i : Nat), x])) h'' T (.tup [.int (i : Nat), x]) := ⟨by show 2 ≤ sizeLine; decide, [.int i tk, y], .cons ⟨_, rfl⟩ (.cons ru .nil), _, hT2, rfl, _, rfl⟩
    have I1 : Inv X pins σ (upd H T (.tup [.int (i : Nat), x])) { s with heap := h'', toks := tk + 1 } := by
      refine I.turnedNew (ch := [e, it]) (fun b ob hb q => ?_) hf (Nat.le_refl _) new
      have nb : b ≠ e ∧ b ≠ it := ⟨fun z => hb (by simp [z]), fun z => hb (by simp [z])⟩
      exact (sb.2 b nb.1).trans (hk b ob nb.1 nb.2 q)
    have e1 : ((i + 1 : Nat) : Int) = (i : Int) + 1 := by omega
    refine ⟨.ref T, _, I1, rfl, ⟨T, x, rfl, I.hok.fresh (Nat.le_refl _), rfl, fun ys hy => by rw [I.tuple_inj hy hq]; exact hx⟩, ⟨⟨y, by rw [e1]; exact he'⟩, st'.1.at fun o q => (sb.2 it (Ne.symm d1)).trans q⟩, fun b hb => ?_⟩
    have hb' : b < T := by
      rcases List.mem_cons.mp hb with z | z
      · exact z ▸ hel
      · exact List.mem_singleton.mp z ▸ hil
    rw [upd_ne (Nat.ne_of_lt hb')]
    exact (hf b hb).1
  done := by
    rintro X rfl rfl rfl hc i pins s σ H E I hf ⟨⟨old, he⟩, hit⟩ ⟨xs, hq, hx⟩
    obtain ⟨its, rv, p, hz⟩ := I.tuple hq
    obtain ⟨f0, f1, f2, f3, f4, f5⟩ := hf it (by simp)
    have dr := Draws.tuple (prog := X.prog) (w := X.w) (A := X.A.in1) (show X.A.in1.handled = none from I.ok.hd hc) it a d3 its.toArray
    have en : its.toArray.size = i := by rw [List.size_toArray, ← rv.length, hx]
    refine wpAny_pyNext_enum_endD dr he ⟨en ▸ hit, p⟩ fun h' eb => ⟨rfl, I.turned (t' := s.toks) (fun b o hb q => eb b o hb q) f0 f1 f3 f4 f5⟩
  self := fun A i s Q E st h => let ⟨⟨_, he⟩, _⟩ := st; wpAny_pyIter_enum he h
theorem pi_enumT {X : Cx} {e : Expr} {ta : TA} {p pos tpos : Pos} {elts : List Expr} {kk : Nat} (hg : Gl X "enumerate") (hm : X.mg "enumerate" = none) (ha : PA X [e] ta) (hs : starEach [e] X.env = [(false, eval e X.env)] := by rfl) :
    PI X (.Tuple elts kk tpos) (.Call (.Name "enumerate" p) [e] [] pos) (fun σ H R => ta σ H fun vs H1 => ∃ a xs, vs = [.ref a] ∧ SqT X.K H1 a xs ∧ R (IteT X.K a) H1) := by
  refine ⟨fun pins s σ H R I h => ?_⟩
  have args := ha.run pos pins s σ H _ I h
  refine Call_ (ld_blt I hg hm boot_enumerate (PyProof.Rows.callWith_type1 (thn args ?_) hs rfl))
  rintro us s1 ⟨vs, H1, I1, r1, a, xs, rfl, hq, q⟩
  obtain ⟨u, rfl, ru⟩ := vals1 r1
  cases (show u = Value.ref a from ru)
  obtain ⟨its, rv, pt, hz⟩ := I1.tuple hq
  have ha' : a < s1.heap.objs.size := by
    obtain ⟨o, ho, _⟩ := id pt
    exact Heap.lt_size ho
  refine enum_call1 (begins_tuple a its.toArray) (show s1.heap.IsTuple a its.toArray from pt) fun h' he hit hk => wpAny_pyIter_enum he ?_
  have I2 : Inv X pins σ H1 { s1 with heap := h' } := I1.kept (t' := s1.toks) hk
  let n := s1.heap.objs.size
  refine ⟨n + 1, [n + 1, n], _, _, H1, rfl, I2, turn_enumT a (n + 1) n (Nat.succ_ne_self _) (Nat.ne_of_gt (Nat.lt_succ_of_lt ha')) (Nat.ne_of_lt ha'), ⟨⟨.none, he⟩, _, hit, rfl, rfl⟩, fun b hb => ?_, q⟩
  have hle : n ≤ b := by
    rcases List.mem_cons.mp hb with z | z
    · exact z ▸ Nat.le_succ n
    · exact List.mem_singleton.mp z ▸ Nat.le_refl n
  exact I1.fpOk hle (I1.hok.fresh hle)

section
variable {X : Cx} {st : Option Addr} {K : PySem.W.Frag} {e a b c : Expr} {es : List Expr} {pos p : Pos} {fa fb : Fe}
def enumD (ds : List D) : List D := (ds.zipIdx 0).map fun p => D.tup [.int (p.2 : Nat), p.1]
theorem enumD_length (ds : List D) : (enumD ds).length = ds.length := by
  unfold enumD
  rw [List.length_map, List.length_zipIdx]
theorem enumD_get {ds : List D} {i : Nat} {d : D} (h : (enumD ds)[i]? = some d) : ∃ x, ds[i]? = some x ∧ d = .tup [.int (i : Nat), x] := by
  unfold enumD at h
  rw [List.getElem?_map, List.getElem?_zipIdx] at h
  cases e : ds[i]? with
  | none =>
    rw [e] at h
    cases h
  | some x =>
    rw [e] at h
    cases h
    exact ⟨x, rfl, by rw [Nat.zero_add]⟩
theorem wk_enumT {Z : Addr → Prop} {B F : Hp} {q : Addr} {vs : List V} {ds : List D} (h : F q = some (.tup vs)) (p : RpA F vs ds) : Wk st Z B F (IteT K q) (enumD ds) where
  goes := fun Z1 B1 F1 ρ σ H i _ _ l r hi => by
    rw [enumD_length] at hi
    obtain ⟨v, e, _⟩ := p.get (List.getElem?_eq_getElem hi)
    exact ⟨vs, v, seqT r.sub (l _ _ h), e⟩
  stops := fun Z1 B1 F1 ρ σ H _ _ l r => ⟨vs, seqT r.sub (l _ _ h), by rw [p.length, enumD_length]⟩
  yields := fun Z1 B1 F1 ρ σ H i x H' d _ _ l r e y => by
    obtain ⟨T, v, rfl, nT, rfl, y1⟩ := y
    obtain ⟨d1, g1, rfl⟩ := enumD_get e
    obtain ⟨v', e1, e2⟩ := p.get g1
    have f1 := y1 vs (seqT r.sub (l _ _ h))
    rw [e1] at f1
    cases f1
    have l2 := r.leNew (o := .tup [.int (i : Nat), v]) nT
    exact ⟨_, l2, r.new nT, .tup upd_same (by show 2 ≤ sizeLine; decide) (.cons (.int _) (.cons (Rp.mono (l.trans l2) e2) .nil))⟩
def iEnumT (fa : Fe) : Fi := fun ρ => match fa ρ with
  | some (.tup xs, ρ1) => some (enumD xs, ρ1)
  | _ => none
theorem di_enum {elts : List Expr} {k : Nat} {tpos : Pos} (hg : Gl X "enumerate") (hm : X.mg "enumerate" = none) (ha : DE X st a fa) (hs : starEach [a] X.env = [(false, eval a X.env)] := by rfl) : DI X st (.Tuple elts k tpos) (.Call (.Name "enumerate" p) [a] [] pos) (iEnumT fa) := by
  intro Z B F ρ σ H ds ρ' R r h q
  unfold iEnumT at h
  split at h
  · rename_i xs ρ1 h1
    cases h
    refine ⟨_, pi_enumT hg hm (pa_cons pe_w pa_nil hs) hs, ?_⟩
    refine ha _ _ _ _ _ _ _ _ _ r h1 fun F1 H1 v l1 r1 p1 => ?_
    cases p1 with
    | tup e1 e2 e3 => exact ⟨_, _, rfl, seqT r1.sub e1, q _ F1 H1 l1 r1 (wk_enumT e1 e3) (by rw [enumD_length, ← e3.length]; exact e2)⟩
  · cases h

end

/-! ### t[::-1] -/
section
variable {prog : Program} {w : World} {A : Around} {E : Value → Shared → Prop} {s : Shared}
theorem rev_pick (items : Array Value) : ((List.range items.size).filterMap fun (k : Nat) => items[(((items.size : Int) - 1) + (k : Int) * (-1)).toNat]?).toArray = items.toList.reverse.toArray := by
  congr 1
  apply List.ext_getElem?
  intro j
  have key : ∀ (n : Nat), n ≤ items.size → ((List.range n).filterMap fun (k : Nat) => items[(((items.size : Int) - 1) + (k : Int) * (-1)).toNat]?) = items.toList.reverse.take n := by
    intro n
    induction n with
    | zero => intro _; rfl
    | succ n ih =>
      intro hn
      rw [List.range_succ, List.filterMap_append, ih (by omega), List.take_add_one]
      congr 1
      have e1 : (((items.size : Int) - 1) + (n : Int) * (-1)).toNat = items.size - 1 - n := by omega
      simp only [List.filterMap_cons, List.filterMap_nil, e1]
      have hlt : items.size - 1 - n < items.size := by omega
      rw [List.getElem?_reverse (by rw [Array.length_toList]; omega), Array.length_toList, Array.getElem?_toList, Array.getElem?_eq_getElem hlt]
      rfl
  rw [key items.size (Nat.le_refl _), List.take_of_length_le (by rw [List.length_reverse, Array.length_toList]; exact Nat.le_refl _)]
theorem sliceRev {sl : Addr} {vl vu vs : Value} {n : Nat} {Q : Int × Int × Nat → Shared → Prop} (hs : s.heap.IsSliceOf sl vl vu vs) (pl : IsPart vl none) (pu : IsPart vu none) (ps : IsPart vs (some (-1)))
    (h : Q ((n : Int) - 1, -1, n) s) : wpAny (model prog w) A (Builtin.Slice.sliceApplied (.ref sl) (pure (n : Int))) Q E s := by
  obtain ⟨os, hos, hcs, hds⟩ := id hs
  unfold Builtin.Slice.sliceApplied Builtin.Slice.sliceFields
  refine wpAny_bind (wpAny_bind (wpAny_field hos hds (x := vl) rfl (wpAny_bind (wpAny_field hos hds (x := vu) rfl (wpAny_bind (wpAny_field hos hds (x := vs) rfl (wpAny_pure ?_)))))))
  refine wpAny_bind (HT.slicePart_ ps ?_)
  show wpAny _ _ (if ((-1 : Int) == 0) = true then _ else _) _ _ s
  rw [if_neg (by decide)]
  refine wpAny_bind (HT.slicePart_ pl (wpAny_bind (HT.slicePart_ pu (wpAny_bind (wpAny_pure ?_)))))
  show wpAny _ _ (match Builtin.Slice.sliceAdjust none none (-1) (n : Int) with | (lo, hi) => pure (lo, (-1 : Int), Builtin.Slice.slicePlaces lo hi (-1))) _ _ s
  have e1 : Builtin.Slice.sliceAdjust none none (-1) (n : Int) = ((n : Int) - 1, -1) := rfl
  have e2 : Builtin.Slice.slicePlaces ((n : Int) - 1) (-1) (-1) = n := by
    unfold Builtin.Slice.slicePlaces
    have h1 : ¬ ((-1 : Int) > 0) := by omega
    have h2 : -(-1 : Int) = 1 := rfl
    simp only [h1, if_false, h2, Int.ediv_one]
    split <;> omega
  rw [e1]
  show wpAny _ _ (pure ((n : Int) - 1, (-1 : Int), Builtin.Slice.slicePlaces ((n : Int) - 1) (-1) (-1))) _ _ s
  rw [e2]
  exact wpAny_pure h
theorem getTupRev {t sl : Addr} {items : Array Value} {vl vu vs : Value} {Q : Value → Shared → Prop} (ht : IsTup s.heap t items) (hs : s.heap.IsSliceOf sl vl vu vs) (pl : IsPart vl none) (pu : IsPart vu none) (ps : IsPart vs (some (-1)))
    (h : Q (.ref s.heap.objs.size) { s with heap := s.heap.push { cls := .type "tuple", data := .seq items.toList.reverse.toArray } }) (hsz : items.size ≤ sizeLine) : wpAny (model prog w) A (getItem (.ref t) (.ref sl)) Q E s := by
  have room : sizeOk (.seq items.toList.reverse.toArray) := by
    show items.toList.reverse.toArray.size ≤ sizeLine
    rw [List.size_toArray, List.length_reverse, Array.length_toList]
    exact hsz
  have hTs : s.TypeIs (.ref sl) "slice" := let ⟨os, hos, hcs, _⟩ := hs; ⟨os, hos, hcs⟩
  unfold getItem
  try with_reducible refine wpAny_holding ?_
  first | refine wpAny_bind (wpAny_pure ?_) | skip
  refine wpAny_bind (wpAny_sequenceKey ht.typeIs (by decide) (wpAny_bind (wpAny_callSpecial?_slot (name := Str.ofString "__getitem__") ht.typeIs PyProof.Rows.slot_tuple_getitem
    (wpAny_call_entry PyProof.Rows.slot_tuple_getitem ht.typeIs entry_tuple_getitem ?_ (args_tuple_getitem _ _)))))
  show wpAny _ _ (Builtin.Tuple.tupleItemsOf (.ref t) >>= _) _ _ s
  refine wpAny_bind (tupleItemsOf_ ht (wpAny_bind (wpAny_typeOf hTs ?_)))
  rw [if_pos (by decide)]
  refine wpAny_bind (sliceRev hs pl pu ps ?_)
  have no : ¬ ((((items.size : Int) - 1) == 0 && (-1 : Int) == 1 && items.size == items.size) = true) := by simp
  show wpAny _ _ (if (((items.size : Int) - 1) == 0 && (-1 : Int) == 1 && items.size == items.size) = true then _ else _) _ _ s
  rw [if_neg no, rev_pick]
  first
    | exact wpAny_bind (m := Builtin.Tuple.tupleExact _) (wpAny_newObj_type (wpAny_pure ⟨_, rfl, wpAny_pure h⟩) room)
    | exact wpAny_bind (m := Builtin.Tuple.tupleExact _) (wpAny_newObj_type (wpAny_bind (wpAny_pure (wpAny_pure ⟨_, rfl, wpAny_pure h⟩))) room)
    | exact wpAny_bind (wpAny_bind (m := Builtin.Tuple.tupleExact _) (wpAny_newObj_type (wpAny_pure (wpAny_pure ⟨_, rfl, wpAny_pure h⟩)) room))
    | exact wpAny_bind (wpAny_bind (m := Builtin.Tuple.tupleExact _) (wpAny_newObj_type (wpAny_pure ⟨_, rfl, wpAny_pure h⟩) room))
end
section
variable {X : Cx} {st : Option Addr} {K : PySem.W.Frag} {e a b c : Expr} {es : List Expr} {pos p : Pos} {fa fb : Fe}
theorem pe_revT {te : TE} {k : Nat} {p1 p2 p3 : Pos} (he : PE X e te) : PE X (.Subscript e (.Slice none none (some (.UnaryOp .USub (.Constant (.int 1) k p1) p2)) p3) pos)
    (fun σ H Q => te σ H fun x H1 => ∃ a xs, x = .ref a ∧ SqT X.K H1 a xs ∧ ∀ p, H1 p = none → Q (.ref p) (upd H1 p (.tup xs.reverse))) := by
  refine ⟨fun pins s σ H Q I h => ?_⟩
  refine Subscript_ (thn (he.run pins s σ H _ I h) ?_)
  rintro v s1 ⟨x, H1, I1, r1, a, xs, rfl, hx, q⟩
  cases (show v = Value.ref a from r1)
  have step : PO X (some (.UnaryOp .USub (.Constant (.int 1) k p1) p2)) (tPart (tUn (rU fun i => .int (-i)) (tC (.int 1)))) := po_some (pe_un un_neg pe_int)
  refine wpAny_Slice (thn (po_none.run pins s1 σ H1 (fun o H2 => o = none ∧ H2 = H1) I1 ⟨rfl, rfl⟩) ?_)
  rintro vl s2 ⟨l, H2, I2, pl, rfl, rfl⟩
  refine thn (po_none.run pins s2 σ _ (fun o H3 => o = none ∧ H3 = H2) I2 ⟨rfl, rfl⟩) ?_
  rintro vu s3 ⟨u, H3, I3, pu, rfl, rfl⟩
  refine thn (step.run pins s3 σ _ (fun o H4 => o = some (-1) ∧ H4 = H3) I3 ⟨1, rfl, -1, rfl, rfl, rfl⟩) ?_
  rintro vs s4 ⟨o, H4, I4, ps, rfl, rfl⟩
  have I5 : Inv X pins σ H4 { s4 with heap := s4.heap.push { cls := .type "slice", data := .fields #[vl, vu, vs] } } := I4.kept (t' := s4.toks) fun b ob q => Heap.get?_push_of_some _ q
  obtain ⟨its, r, ht, hz⟩ := I5.tuple hx
  have hlen := r.length
  show wpAny (model X.prog X.w) X.A (subscriptTail e (.Slice none none (some (.UnaryOp .USub (.Constant (.int 1) k p1) p2)) p3) (.ref a) (.ref s4.heap.objs.size)) (EP X pins σ Q) X.xe { s4 with heap := s4.heap.push { cls := .type "slice", data := .fields #[vl, vu, vs] } }
  refine tail_any (ops := [.ref a, .ref s4.heap.objs.size]) ht.typeIs (PyProof.Rows.slot_tuple_getitem.lookup) ?_ (by with_unfolding_all rfl)
  refine getTupRev ht (Heap.IsSliceOf.new _ vl vu vs) pl pu ps ?_ (by rw [List.size_toArray]; omega)
  refine ⟨.ref _, _, I5.laid (t' := s4.toks) (o := .tup xs.reverse) (fun b ob q => Heap.get?_push_of_some _ q) (Nat.le_refl _) ?_, rfl, q _ (I5.hok.fresh (Nat.le_refl _))⟩
  exact ⟨by rw [List.length_reverse]; exact hz, _, r.reverse, _, Heap.get?_push_size _ rfl, rfl, _, rfl⟩
def gRev : D → Option D
  | .tup ds => some (.tup ds.reverse)
  | _ => none
theorem de_rev {k : Nat} {p1 p2 p3 : Pos} (ha : DE X st a fa) : DE X st (.Subscript a (.Slice none none (some (.UnaryOp .USub (.Constant (.int 1) k p1) p2)) p3) pos) (e1 gRev fa) := by
  intro Z B F ρ σ H d ρ' Q r h q
  obtain ⟨x, h1, h3⟩ := e1_inv h
  refine ⟨_, pe_revT pe_w, ?_⟩
  refine ha _ _ _ _ _ _ _ _ _ r h1 fun F1 H1 u l1 r1 p1 => ?_
  cases x <;> cases h3
  cases p1 with
  | @tup _ vs _ e1 e2 e3 =>
    refine ⟨_, _, rfl, seqT r1.sub e1, fun p hp => ?_⟩
    have l := r1.leNew (o := .tup vs.reverse) hp
    exact q _ _ _ (l1.trans l) (r1.new hp) (.tup upd_same (by rw [List.length_reverse]; exact e2) (RpA.mono l e3.reverse))
end
end Kx
set_option Elab.async false
set_option linter.all false
set_option maxRecDepth 100000
set_option maxHeartbeats 4000000
/-! a def by its body -/
namespace Kx
open PySem PySem.Spec PyProof.Rows L2

def slots (N n : Nat) (ds : List D) : Rho := (ds.map fun d => some (Sl.fz d)) ++ List.replicate (N - n) none
/-- what a def hands back -/
def runD (N n : Nat) (fb : Fs) (ds : List D) : Option D := match fb (slots N n ds) with
  | some (.rt d _) => some d
  | some (.nx _) => some .non
  | none => none
def runS (N n : Nat) (fb : Fs) (S : Strm) (ds : List D) : Option (D × Strm) := match fb (some (Sl.st S) :: slots N n ds) with
  | some (.rt d ρ) => match (ρ[0]? : Option (Option Sl)) with
    | some (some (Sl.st S')) => some (d, S')
    | _ => none
  | _ => none
theorem slots_get {N n : Nat} {ds : List D} {i : Nat} {s : Sl} (h : (slots N n ds)[i]? = some (some s)) : ∃ d, ds[i]? = some d ∧ s = .fz d := by
  unfold slots at h
  by_cases hi : i < ds.length
  · rw [List.getElem?_append_left (by rw [List.length_map]; exact hi), List.getElem?_map, List.getElem?_eq_getElem hi] at h
    cases h
    exact ⟨_, List.getElem?_eq_getElem hi, rfl⟩
  · rw [List.getElem?_append_right (by rw [List.length_map]; omega)] at h
    have := List.mem_of_getElem? h
    rw [List.mem_replicate] at this
    cases this.2
theorem start_get {N : List Str} {vs : List V} {i : Nat} {v : V} (h : vs[i]? = some v) : (start N vs)[i]? = some (some v) := by
  unfold L2.start
  have hi : i < vs.length := (List.getElem?_eq_some_iff.mp h).1
  rw [List.getElem?_append_left (by rw [List.length_map]; exact hi), List.getElem?_map, h]
  rfl
section
variable {P : Program} {w : World} {K : PySem.W.Frag} {mg : Str → Option Value} {base : Heap}
abbrev CxD (P : Program) (w : World) (K : PySem.W.Frag) (mg : Str → Option Value) (base : Heap) (N : List Str) (qual : Str) (sd : Stmt) (f : Addr) (cdv : Value) (A : Around) (outer : List Env) (s : Shared) (H : Hp) (E : XK) : Cx :=
  (cxOf CX0 P w K mg base N qual (defScope sd) f cdv A outer s H E).nox
/-- a def that changes nothing -/
theorem fn_pure {x qual : Str} {sd : Stmt} {f : Addr} {fd : FuncData} {N ps : List Str} {k : Nat} {fb : Fs} (F : Fun K x qual sd f fd) (S : FnScope N ps (defScope sd)) (hlen : ps.length ≤ N.length)
    (hb : ∀ (cdv : Value) (A : Around) (outer : List Env) (s : Shared) (H : Hp) (E : XK), Room k (A.deeper (envOfC qual (defScope sd) s.heap.objs.size f cdv)) → DSs (CxD P w K mg base N qual sd f cdv A outer s H E) none (defBody sd) fb) :
    FnOk P w K mg base CX0 (k + 1) f fd ps (spD ps.length (runD N.length ps.length fb)) := by
  refine F.ok S (spD_len rfl) fun cdv A outer s H vs Q E hr h => ?_
  obtain ⟨F0, ds, d, hl, sub, pa, hrun, q⟩ := h
  unfold runD at hrun
  have hvl : vs.length = ps.length := by rw [pa.length, hl]
  have R0 : Rs none (fun a => F0 a = none ∧ (∃ o, H a = some o) ∧ ∀ xs, H a ≠ some (.tup xs)) H F0 (slots N.length ps.length ds) (start N vs) H := by
    refine ⟨?_, fun a o e => e, sub, fun a z => z.1, fun a z => z.2.1, fun i t e => ?_, fun i t a e o => ?_, fun i j t t' a e e' o => ?_, (fun a e => nomatch e), fun a z => z.2.2, (fun a e => nomatch e)⟩
    · unfold slots L2.start
      rw [List.length_append, List.length_append, List.length_map, List.length_map, List.length_replicate, List.length_replicate, hl, hvl]
    · obtain ⟨d, e1, rfl⟩ := slots_get e
      obtain ⟨v, e2, p⟩ := pa.get e1
      exact ⟨v, start_get e2, p⟩
    · obtain ⟨d, e1, rfl⟩ := slots_get e
      cases o
    · obtain ⟨d, e1, rfl⟩ := slots_get e
      cases o
  have keep : ∀ {F' : Hp} {ρ' : Rho} {σ' : L2.St} {H' : Hp} {v : V} {d : D}, Le F0 F' → Rs none (fun a => F0 a = none ∧ (∃ o, H a = some o) ∧ ∀ xs, H a ≠ some (.tup xs)) H F' ρ' σ' H' → Rp F' v d → (∀ F' H' v, Le F0 F' → Sub F' H' → (∀ a o, H a = some o → H' a = some o) → (∀ a, F0 a = none → (∃ o, H a = some o) → (∀ xs, H a ≠ some (.tup xs)) → F' a = none) → Rp F' v d → Q v H') → Q v H' :=
    fun {F' ρ' σ' H' v d} l R p q => q F' H' v l R.sub R.bh (fun a z1 z2 z3 => R.zf a ⟨z1, z2, z3⟩) p
  split at hrun
  · rename_i d' ρ' e1
    cases hrun
    exact hb cdv A outer s H E hr _ _ _ _ _ _ _ { nx := fun _ H' => Q .non H', rt := Q } R0 e1 (fun ρ2 eq => nomatch eq) fun d2 ρ2 eq F' σ' H' v l R p => by
      cases eq
      exact keep l R p q
  · rename_i ρ' e1
    cases hrun
    exact hb cdv A outer s H E hr _ _ _ _ _ _ _ { nx := fun _ H' => Q .non H', rt := Q } R0 e1 (fun ρ2 eq F' σ' H' l R => keep l R .non q) fun d2 ρ2 eq => nomatch eq
  · cases hrun
/-- a def that is given the stream first -/
theorem fn_stream {x qual : Str} {sd : Stmt} {f : Addr} {fd : FuncData} {N ps : List Str} {k n : Nat} {fb : Fs} (F : Fun K x qual sd f fd) (S : FnScope N ps (defScope sd)) (hps : ps.length = n + 1) (hlen : n + 1 ≤ N.length)
    (hb : ∀ (a : Addr) (cdv : Value) (A : Around) (outer : List Env) (s : Shared) (H : Hp) (E : XK), Room k (A.deeper (envOfC qual (defScope sd) s.heap.objs.size f cdv)) → DSs (CxD P w K mg base N qual sd f cdv A outer s H E) (some a) (defBody sd) fb) :
    FnOk P w K mg base CX0 (k + 1) f fd ps (spS n (runS (N.length - 1) n fb)) := by
  refine F.ok S (spS_len hps) fun cdv A outer s H vs Q E hr h => ?_
  obtain ⟨F0, a, b, us, ds, d, S0, S', rfl, hl, sub, fa, ha, hb0, pa, hrun, q⟩ := h
  unfold runS at hrun
  have hvl : us.length = n := by rw [pa.length, hl]
  let B0 : Hp := fun c => if c = a then none else H c
  have bne : ∀ {c o}, B0 c = some o → c ≠ a ∧ H c = some o := fun {c o} e => by
    by_cases hc : c = a
    · rw [show B0 c = none from if_pos hc] at e
      cases e
    · exact ⟨hc, by rw [show B0 c = H c from if_neg hc] at e; exact e⟩
  let Z0 : Addr → Prop := fun c => F0 c = none ∧ (∃ o, B0 c = some o) ∧ ∀ xs, B0 c ≠ some (.tup xs)
  have R0 : Rs (some a) Z0 B0 F0 (some (Sl.st S0) :: slots (N.length - 1) n ds) (start N (.ref a :: us)) H := by
    refine ⟨?_, fun c o e => (bne e).2, sub, fun c z => z.1, fun c z => z.2.1, fun i t e => ?_, fun i t c e o => ?_, fun i j t t' c e e' o => ?_, fun c e => ?_, fun c z => z.2.2, fun c e xs w => ?_⟩
    · unfold slots L2.start
      rw [List.length_cons, List.length_append, List.length_append, List.length_map, List.length_map, List.length_replicate, List.length_replicate, List.length_cons, hl, hvl]
      omega
    · cases i with
      | zero =>
        cases e
        exact ⟨.ref a, rfl, a, b, rfl, rfl, ha, hb0⟩
      | succ i =>
        obtain ⟨d, e1, rfl⟩ := slots_get (show (slots (N.length - 1) n ds)[i]? = some (some t) from e)
        obtain ⟨v, e2, p⟩ := pa.get e1
        exact ⟨v, start_get (show (V.ref a :: us)[i + 1]? = some v from e2), p⟩
    · cases i with
      | zero =>
        cases e
        cases o
      | succ i =>
        obtain ⟨d, e1, rfl⟩ := slots_get (show (slots (N.length - 1) n ds)[i]? = some (some t) from e)
        cases o
    · cases i with
      | zero =>
        cases e
        cases o
      | succ i =>
        obtain ⟨d, e1, rfl⟩ := slots_get (show (slots (N.length - 1) n ds)[i]? = some (some t) from e)
        cases o
    · cases e
      exact ⟨if_pos rfl, fa, _, ha⟩
    · cases e
      rw [ha] at w
      cases w
  split at hrun
  · rename_i d' ρ' e1
    split at hrun
    · rename_i S2 e2
      cases hrun
      refine hb a cdv A outer s H E hr _ _ _ _ _ _ _ { nx := fun _ H' => Q .non H', rt := Q } R0 e1 (fun ρ2 eq => nomatch eq) fun d2 ρ2 eq F' σ' H' v l R p => ?_
      cases eq
      obtain ⟨a2, b2, s0, s1, s2, s3, s4⟩ := stream_at R e2
      cases s0
      refine q F' H' v b2 l R.sub (fun c o e ne => R.bh c o (by rw [show B0 c = H c from if_neg ne]; exact e)) (fun c z1 z2 z3 => ?_) s3 s4 p
      by_cases hc : c = a
      · rw [hc]
        exact s2
      · exact R.zf c ⟨z1, by rw [show B0 c = H c from if_neg hc]; exact z2, by rw [show B0 c = H c from if_neg hc]; exact z3⟩
    · cases hrun
  · cases hrun
/-- no def promises what never comes -/
theorem fn_void {f : Addr} {fd : FuncData} {ps : List Str} {k n : Nat} (h : ps.length = n) : FnOk P w K mg base CX0 k f fd ps (spD n fun _ => none) :=
  ⟨spD_len h, fun A outer s H args us vs Q E _ _ _ _ hs => by
    obtain ⟨_, _, _, _, _, _, z, _⟩ := hs
    cases z⟩
end
end Kx
set_option Elab.async false
set_option linter.all false
set_option maxRecDepth 100000
set_option maxHeartbeats 4000000
/-! comparisons as tests -/
namespace Kx
open PySem PySem.Spec PyProof.Rows L2

def WC (X : Cx) (op : CmpOp) (a b : Expr) : TE := fun σ H Q => ∃ t, PC X op a b t ∧ t σ H Q
theorem pc_w {X : Cx} {op : CmpOp} {a b : Expr} : PC X op a b (WC X op a b) := ⟨fun pins s σ H Q I ⟨_, h, q⟩ => h.run pins s σ H Q I q⟩
def DC (X : Cx) (st : Option Addr) (op : CmpOp) (a b : Expr) (f : Fe) : Prop := ∀ Z B F ρ σ H d ρ' (Q : VK), Rs st Z B F ρ σ H → f ρ = some (d, ρ') → (∀ F' H' v, Le F F' → Rs st Z B F' ρ' σ H' → Rp F' v d → Q v H') → WC X op a b σ H Q
def tBl (fa : Fe) : Ft := fun ρ => match fa ρ with
  | some (.bl k, ρ1) => some (k, ρ1)
  | _ => none
section
variable {X : Cx} {st : Option Addr} {K : PySem.W.Frag} {e a b c : Expr} {pos : Pos} {fa fb fc : Fe} {op : CmpOp} {g g' : D → D → Option D}
theorem dt_c {f : Fe} (h1 : DC X st op a b f) (hm : behindInMarks op b = false := by first | exact nobehind _ (by decide) (by decide) | rfl) : DT X st (.Compare a [op] [b] pos) (tBl f) := by
  intro Z B F ρ σ H k ρ' Q r h q
  unfold tBl at h
  split at h
  · rename_i k' ρ1 e1
    cases h
    refine ⟨_, pt_cmp pc_w hm, ?_⟩
    refine h1 _ _ _ _ _ _ _ _ _ r e1 fun F1 H1 v l1 r1 p1 => ?_
    cases p1
    exact ⟨_, rfl, q F1 H1 l1 r1⟩
  · cases h
theorem pc_of {r : R2} {ta tb : TE} (ho : OpR X (compareOp op) r) (ha : PE X a ta) (hb : PE X b tb) : PC X op a b (tOp r ta tb) := by
  refine ⟨fun pins s σ H Q I h => thn (ha.run pins s σ H _ I h) ?_⟩
  rintro v s1 ⟨x, H1, I1, r1, q1⟩
  refine thn (hb.run pins s1 σ H1 _ I1 q1) ?_
  rintro u s2 ⟨y, H2, I2, r2, q2⟩
  exact ho pins s2 σ H2 x y v u Q I2 r1 r2 q2
theorem dc_op {r : R2} (ho : OpR X (compareOp op) r) (hg : Op2 st X.K r g) (ha : DE X st a fa) (hb : DE X st b fb) : DC X st op a b (e2 g fa fb) := by
  intro Z B F ρ σ H d ρ' Q r h q
  obtain ⟨x, ρ1, y, h1, h2, h3⟩ := e2_inv h
  refine ⟨_, pc_of ho pe_w pe_w, ?_⟩
  refine two_of ha hb r h1 h2 fun F1 H1 u v l1 r1 p1 p2 => ?_
  exact hg _ _ _ _ _ _ _ _ _ _ _ _ r1 p1 p2 h3 fun F2 H2 w l2 r2 p3 => q F2 H2 w (l1.trans l2) r2 p3
theorem dc_lt (ha : DE X st a fa) (hb : DE X st b fb) : DC X st .Lt a b (e2 (gB fun i j => decide (i < j)) fa fb) := dc_op op_lt op2_B ha hb
theorem dc_le (ha : DE X st a fa) (hb : DE X st b fb) : DC X st .LtE a b (e2 (gB fun i j => decide (i ≤ j)) fa fb) := dc_op op_le op2_B ha hb
theorem dc_gt (ha : DE X st a fa) (hb : DE X st b fb) : DC X st .Gt a b (e2 (gB fun i j => decide (j < i)) fa fb) := dc_op op_gt op2_B ha hb
theorem dc_ge (ha : DE X st a fa) (hb : DE X st b fb) : DC X st .GtE a b (e2 (gB fun i j => decide (j ≤ i)) fa fb) := dc_op op_ge op2_B ha hb
theorem dc_eq (hu : X.A.units + 64 < cLine) (ha : DE X st a fa) (hb : DE X st b fb) : DC X st .Eq a b (e2 (gEqv false) fa fb) := dc_op (op_eqD hu) op2_eq ha hb
theorem dc_ne (hu : X.A.units + 64 < cLine) (ha : DE X st a fa) (hb : DE X st b fb) : DC X st .NotEq a b (e2 (gEqv true) fa fb) := dc_op (op_neD hu) op2_ne ha hb
theorem dc_inS (ha : DE X st a fa) (hb : DE X st b fb) : DC X st .In a b (e2 (gInS false) fa fb) := dc_op op_in_seq (op2_in false) ha hb
theorem dc_notInS (ha : DE X st a fa) (hb : DE X st b fb) : DC X st .NotIn a b (e2 (gInS true) fa fb) := dc_op op_notIn_seq (op2_in true) ha hb
theorem dc_isB (ha : DE X st a fa) (hb : DE X st b fb) : DC X st .Is a b (e2 (gIsB false) fa fb) := by
  refine dc_op op_isBl (fun Z B F ρ σ H x y dx dy d Q r p1 p2 h q => ?_) ha hb
  cases dx <;> cases dy <;> cases h
  cases p1
  cases p2
  exact ⟨_, _, rfl, rfl, q F H _ (Le.refl F) r (.bl _)⟩
theorem dc_notB (ha : DE X st a fa) (hb : DE X st b fb) : DC X st .IsNot a b (e2 (gIsB true) fa fb) := by
  refine dc_op op_notBl (fun Z B F ρ σ H x y dx dy d Q r p1 p2 h q => ?_) ha hb
  cases dx <;> cases dy <;> cases h
  cases p1
  cases p2
  exact ⟨_, _, rfl, rfl, q F H _ (Le.refl F) r (.bl _)⟩
theorem dc_isN {j : Nat} {pos' : Pos} (ha : DE X st a fa) : DC X st .Is a (.Constant .none j pos') (e1 gIsN fa) := by
  intro Z B F ρ σ H d ρ' Q r h q
  obtain ⟨x, h1, h3⟩ := e1_inv h
  refine ⟨_, pc_isN pe_w, ?_⟩
  refine ha _ _ _ _ _ _ _ _ _ r h1 fun F1 H1 u l1 r1 p1 => ?_
  cases h3
  show Q (.bl (decide (u = .non))) H1
  rw [p1.isNon]
  exact q F1 H1 _ l1 r1 (.bl _)
theorem dc_notN {j : Nat} {pos' : Pos} (ha : DE X st a fa) : DC X st .IsNot a (.Constant .none j pos') (e1 gNotN fa) := by
  intro Z B F ρ σ H d ρ' Q r h q
  obtain ⟨x, h1, h3⟩ := e1_inv h
  refine ⟨_, pc_notN pe_w, ?_⟩
  refine ha _ _ _ _ _ _ _ _ _ r h1 fun F1 H1 u l1 r1 p1 => ?_
  cases h3
  show Q (.bl (!decide (u = .non))) H1
  rw [p1.isNon]
  exact q F1 H1 _ l1 r1 (.bl _)
theorem dc_notInK {x : Str} {g : Addr} {zs : List Str} {pos' : Pos} (ha : DE X st a fa) (hg : Gl X x) (hm : X.mg x = some (.ref g)) (hk : ∀ H, SqT X.K H g (zs.map V.str)) (hd : (x == ("__debug__" : Str)) = false := by decide) : DC X st .NotIn a (.Name x pos') (e1 (gNotInT zs) fa) := by
  intro Z B F ρ σ H d ρ' Q r h q
  obtain ⟨y, h1, h3⟩ := e1_inv h
  refine ⟨_, pc_of op_notIn_seq pe_w (pe_glob (v := .ref g) hg hm rfl hd), ?_⟩
  refine ha _ _ _ _ _ _ _ _ _ r h1 fun F1 H1 u l1 r1 p1 => ?_
  cases p1 <;> cases h3
  refine ⟨_, _, rfl, .inr (hk H1), rfl, flat_strs zs, ?_⟩
  rw [inV_strs]
  exact q F1 H1 _ l1 r1 (.bl _)
theorem dc_din (hu : X.A.units + 1 < cLine) (ha : DE X st a fa) (hb : DE X st b fb) : DC X st .In a b (e2 (gDin false) fa fb) := by
  intro Z B F ρ σ H d ρ' Q r h q
  obtain ⟨x, ρ1, y, h1, h2, h3⟩ := e2_inv h
  refine ⟨_, pc_din hu pe_w pe_w, ?_⟩
  refine two_of ha hb r h1 h2 fun F1 H1 u v l1 r1 p1 p2 => ?_
  unfold gDin at h3
  split at h3
  · rename_i kvs
    split at h3
    · rename_i k hk
      cases h3
      obtain ⟨a', es, rfl, e3, g⟩ := getT r1.sub p2 p1 hk
      refine ⟨a', _, rfl, g, ?_⟩
      rw [look_some e3 k]
      exact q F1 H1 _ l1 r1 (.bl _)
    · cases h3
  · cases h3
theorem dc_dnotin (hu : X.A.units + 1 < cLine) (ha : DE X st a fa) (hb : DE X st b fb) : DC X st .NotIn a b (e2 (gDin true) fa fb) := by
  intro Z B F ρ σ H d ρ' Q r h q
  obtain ⟨x, ρ1, y, h1, h2, h3⟩ := e2_inv h
  refine ⟨_, pc_dnotin hu pe_w pe_w, ?_⟩
  refine two_of ha hb r h1 h2 fun F1 H1 u v l1 r1 p1 p2 => ?_
  unfold gDin at h3
  split at h3
  · rename_i kvs
    split at h3
    · rename_i k hk
      cases h3
      obtain ⟨a', es, rfl, e3, g⟩ := getT r1.sub p2 p1 hk
      refine ⟨a', _, rfl, g, ?_⟩
      rw [look_some e3 k]
      exact q F1 H1 _ l1 r1 (.bl _)
    · cases h3
  · cases h3
theorem dc_dinO (i : Nat) {x : Str} {py : Pos} (hu : X.A.units + 1 < cLine) (hb : DE X st b fb) (hN : X.N[i]? = some x := by rfl) (hv : Vis X.env.scope x := by first | exact Or.inl rfl | exact Or.inr (Or.inl rfl) | exact Or.inr (Or.inr rfl)) (hd : (x == ("__debug__" : Str)) = false := by decide)
    (hcd : (x == ("__classdict__" : Str)) = false := by decide) : DC X st .In b (.Name x py) (eDinO false i fb) := by
  intro Z B F ρ σ H d ρ' Q r h q
  refine ⟨_, pc_din hu pe_w (pe_var (i := i) hN hv hd hcd), ?_⟩
  unfold eDinO at h
  split at h
  · rename_i y ρ1 h1
    split at h
    · rename_i kvs e1
      split at h
      · rename_i k hk
        cases h
        refine hb _ _ _ _ _ _ _ _ _ r h1 fun F1 H1 v l1 r1 p1 => ?_
        obtain ⟨v1, g0, a1, es, rfl, g1, g2, g3, g4⟩ := r1.slot i _ e1
        obtain ⟨b', rfl, e4⟩ := p1.key r1.sub hk
        refine ⟨_, g0, a1, _, rfl, .inr ⟨es, kk k, b', .inl g2, rfl, e4, rfl⟩, ?_⟩
        rw [look_some g4 k]
        exact q F1 H1 _ l1 r1 (.bl _)
      · cases h
    · cases h
  · cases h
theorem dc_dnotinO (i : Nat) {x : Str} {py : Pos} (hu : X.A.units + 1 < cLine) (hb : DE X st b fb) (hN : X.N[i]? = some x := by rfl) (hv : Vis X.env.scope x := by first | exact Or.inl rfl | exact Or.inr (Or.inl rfl) | exact Or.inr (Or.inr rfl)) (hd : (x == ("__debug__" : Str)) = false := by decide)
    (hcd : (x == ("__classdict__" : Str)) = false := by decide) : DC X st .NotIn b (.Name x py) (eDinO true i fb) := by
  intro Z B F ρ σ H d ρ' Q r h q
  refine ⟨_, pc_dnotin hu pe_w (pe_var (i := i) hN hv hd hcd), ?_⟩
  unfold eDinO at h
  split at h
  · rename_i y ρ1 h1
    split at h
    · rename_i kvs e1
      split at h
      · rename_i k hk
        cases h
        refine hb _ _ _ _ _ _ _ _ _ r h1 fun F1 H1 v l1 r1 p1 => ?_
        obtain ⟨v1, g0, a1, es, rfl, g1, g2, g3, g4⟩ := r1.slot i _ e1
        obtain ⟨b', rfl, e4⟩ := p1.key r1.sub hk
        refine ⟨_, g0, a1, _, rfl, .inr ⟨es, kk k, b', .inl g2, rfl, e4, rfl⟩, ?_⟩
        rw [look_some g4 k]
        exact q F1 H1 _ l1 r1 (.bl _)
      · cases h
    · cases h
  · cases h
theorem dt_chain {op' : CmpOp} {r r' : R2} (ho : OpR X (compareOp op) r) (ho' : OpR X (compareOp op') r') (hg : Op2 st X.K r g) (hg' : Op2 st X.K r' g') (ha : DE X st a fa) (hb : DE X st b fb) (hc : DE X st c fc)
    (hm : lastMarks [op, op'] [b, c] = false := by with_unfolding_all rfl) : DT X st (.Compare a [op, op'] [b, c] pos) (tBl (eChain g g' fa fb fc)) := by
  intro Z B F ρ σ H d ρ' Q r h q
  refine ⟨_, pt_chain ho ho' pe_w pe_w pe_w hm, ?_⟩
  unfold tBl at h
  split at h
  · rename_i k' ρ1 e1
    cases h
    unfold eChain at e1
    split at e1
    · rename_i x ρ1 h1
      split at e1
      · rename_i y ρ2 h2
        refine two_of ha hb r h1 h2 fun F1 H1 u v l1 r1 p1 p2 => ?_
        split at e1
        · rename_i h3
          split at e1
          · rename_i z ρ3 h4
            split at e1
            · rename_i d' h5
              cases e1
              refine hg _ _ _ _ _ _ _ _ _ _ _ _ r1 p1 p2 h3 fun F2 H2 w l2 r2 p3 => ?_
              cases p3
              refine ⟨true, rfl, ?_⟩
              rw [if_pos rfl]
              refine hc _ _ _ _ _ _ _ _ _ r2 h4 fun F3 H3 w3 l3 r3 p4 => ?_
              refine hg' _ _ _ _ _ _ _ _ _ _ _ _ r3 (Rp.mono (l2.trans l3) p2) p4 h5 fun F4 H4 w4 l4 r4 p5 => ?_
              cases p5
              exact ⟨_, rfl, q F4 H4 (((l1.trans l2).trans l3).trans l4) r4⟩
            · cases e1
          · cases e1
        · rename_i h3
          cases e1
          refine hg _ _ _ _ _ _ _ _ _ _ _ _ r1 p1 p2 h3 fun F2 H2 w l2 r2 p3 => ?_
          cases p3
          refine ⟨false, rfl, ?_⟩
          rw [if_neg Bool.false_ne_true]
          exact ⟨_, rfl, q F2 H2 (l1.trans l2) r2⟩
        · cases e1
      · cases e1
    · cases e1
  · cases h
end
end Kx
set_option Elab.async false
set_option linter.all false
set_option maxRecDepth 100000
set_option maxHeartbeats 4000000
/-! what the program's text gives: constants, built-ins, defs by their promises -/
namespace Kx
open PySem PySem.Spec PyProof.Rows L2

def topS (i : Nat) : Stmt := PySem.Challenge.pw_allbide_k37_whole_evidence_of_limits.main.body.getD i (.Pass ⟨0, 0, 0, 0⟩)
/-- no built-in's name is taken; the module's constants -/
structure Gs (K : PySem.W.Frag) (mg : Str → Option Value) : Prop where
  b_isinstance : mg "isinstance" = none
  b_int : mg "int" = none
  b_bool : mg "bool" = none
  b_str : mg "str" = none
  b_tuple : mg "tuple" = none
  b_list : mg "list" = none
  b_len : mg "len" = none
  b_all : mg "all" = none
  b_any : mg "any" = none
  b_sum : mg "sum" = none
  b_max : mg "max" = none
  b_min : mg "min" = none
  b_abs : mg "abs" = none
  b_range : mg "range" = none
  b_enumerate : mg "enumerate" = none
  b_zip : mg "zip" = none
  c_MOST_EVENTS : ∃ t, mg "MOST_EVENTS" = some (.int 6 t)
  c_MOST_RULES : ∃ t, mg "MOST_RULES" = some (.int 12 t)
  c_FARTHEST : ∃ t, mg "FARTHEST" = some (.int 100 t)
  c_MOST_NEWS : ∃ t, mg "MOST_NEWS" = some (.int 8 t)
  c_MOST_TIME : ∃ t, mg "MOST_TIME" = some (.int 500 t)
  c_SIDES : ∃ a, mg "SIDES" = some (.ref a) ∧ ∀ H, SqT K H a (([("high" : Str), ("low" : Str)] : List Str).map V.str)
theorem bt_isinstance : bootBuiltins "isinstance" = some (.builtin "isinstance") := by decide +kernel
theorem bt_len : bootBuiltins "len" = some (.builtin "len") := by decide +kernel
theorem bt_all : bootBuiltins "all" = some (.builtin "all") := by decide +kernel
theorem bt_any : bootBuiltins "any" = some (.builtin "any") := by decide +kernel
theorem bt_sum : bootBuiltins "sum" = some (.builtin "sum") := by decide +kernel
theorem bt_max : bootBuiltins "max" = some (.builtin "max") := by decide +kernel
theorem bt_min : bootBuiltins "min" = some (.builtin "min") := by decide +kernel
theorem bt_abs : bootBuiltins "abs" = some (.builtin "abs") := by decide +kernel
theorem bt_int : bootBuiltins "int" = some (.type "int") := by decide +kernel
theorem bt_bool : bootBuiltins "bool" = some (.type "bool") := by decide +kernel
theorem bt_str : bootBuiltins "str" = some (.type "str") := by decide +kernel
theorem bt_tuple : bootBuiltins "tuple" = some (.type "tuple") := by decide +kernel
theorem bt_list : bootBuiltins "list" = some (.type "list") := by decide +kernel

/-- the def that stands at the name x keeps its promise -/
structure DefOk (P : Program) (w : World) (K : PySem.W.Frag) (mg : Str → Option Value) (base : Heap) (x : Str) (k n : Nat) (fn : List D → Option D) : Prop where
  ex : ∃ (f : Addr) (fd : FuncData) (ps : List Str), FnOk P w K mg base CX0 k f fd ps (spD n fn) ∧ mg x = some (.ref f) ∧ PySem.W.keepIn K (.ref f) = true ∧ Binds K fd ps []
structure DefOkS (P : Program) (w : World) (K : PySem.W.Frag) (mg : Str → Option Value) (base : Heap) (x : Str) (k n : Nat) (fn : Strm → List D → Option (D × Strm)) : Prop where
  ex : ∃ (f : Addr) (fd : FuncData) (ps : List Str), FnOk P w K mg base CX0 k f fd ps (spS n fn) ∧ mg x = some (.ref f) ∧ PySem.W.keepIn K (.ref f) = true ∧ Binds K fd ps []
section
variable {X : Cx} {st : Option Addr} {K : PySem.W.Frag} {e a b c : Expr} {es : List Expr} {pos p : Pos} {fa fb : Fe} {s : Stmt}
theorem de_callD {x : Str} {j k n : Nat} {fn : List D → Option D} {fs : Fa} (G : DefOk X.prog X.w X.K X.mg X.base x k n fn) (hr : Room j X.A) (ha : DA X st (e :: es) fs) (hj : k ≤ j := by decide) (hg : Gl X x := by rfl)
    (hdb : (x == ("__debug__" : Str)) = false := by decide) (he : starEach (e :: es) X.env = (false, eval e X.env) :: starEach es X.env := by rfl) (hpl : (backTo pos (starEach es X.env)).any (·.1) = false := by rfl) :
    DE X st (.Call (.Name x p) (e :: es) [] pos) (eCall n fn fs) := by
  obtain ⟨f, fd, ps, G, hm, hk, hb⟩ := G.ex
  exact de_call G (hr.mono hj) hg hm hk hb ha hdb he hpl
theorem de_callDS (i : Nat) {x y : Str} {py : Pos} {j k n : Nat} {fn : Strm → List D → Option (D × Strm)} {fs : Fa} (G : DefOkS X.prog X.w X.K X.mg X.base x k n fn) (hr : Room j X.A) (ha : DA X st es fs) (hj : k ≤ j := by decide) (hg : Gl X x := by rfl)
    (hN : X.N[i]? = some y := by rfl) (hv : Vis X.env.scope y := by first | exact Or.inl rfl | exact Or.inr (Or.inl rfl) | exact Or.inr (Or.inr rfl)) (hd : (y == ("__debug__" : Str)) = false := by decide) (hcd : (y == ("__classdict__" : Str)) = false := by decide)
    (hdb : (x == ("__debug__" : Str)) = false := by decide) (he : starEach (.Name y py :: es) X.env = (false, eval (.Name y py) X.env) :: starEach es X.env := by rfl) (hpl : (backTo pos (starEach es X.env)).any (·.1) = false := by rfl) :
    DE X st (.Call (.Name x p) (.Name y py :: es) [] pos) (eCallS i n fn fs) := by
  obtain ⟨f, fd, ps, G, hm, hk, hb⟩ := G.ex
  exact de_callS G (hr.mono hj) hg hm hk hb ha hN hv hd hcd hdb he hpl
/-- d.get(k), d data in slot i -/
def eGet (i : Nat) (fb : Fe) : Fe := fun ρ => match ρ[i]? with
  | some (some (.fz (.dct kvs))) => match fb ρ with
    | some (y, ρ1) => match dKey y with
      | some k => some ((dLook kvs k).getD .non, ρ1)
      | none => none
    | none => none
  | _ => none
theorem de_get (i : Nat) {x : Str} {py apos cpos : Pos} (hu : X.A.units + 1 < cLine) (hb : DE X st b fb) (hN : X.N[i]? = some x := by rfl) (hv : Vis X.env.scope x := by first | exact Or.inl rfl | exact Or.inr (Or.inl rfl) | exact Or.inr (Or.inr rfl)) (hd : (x == ("__debug__" : Str)) = false := by decide)
    (hcd : (x == ("__classdict__" : Str)) = false := by decide) (m : M1 X (.Name x py) "get" apos b cpos := by exact ⟨rfl, rfl, rfl, rfl⟩) : DE X st (.Call (.Attribute (.Name x py) "get" apos) [b] [] cpos) (eGet i fb) := by
  intro Z B F ρ σ H d ρ' Q r h q
  refine ⟨_, pe_dget1 hu (pe_var (i := i) hN hv hd hcd) pe_w m, ?_⟩
  unfold eGet at h
  split at h
  · rename_i kvs e0
    obtain ⟨v, e1, p1⟩ := r.slot i _ e0
    cases p1 with
    | @dct a0 es0 _ f1 f2 f3 =>
      split at h
      · rename_i y ρ1 h2
        split at h
        · rename_i k hk
          cases h
          refine ⟨_, e1, a0, rfl, .inr ⟨_, r.sub.rd _ _ f1⟩, ?_⟩
          refine hb _ _ _ _ _ _ _ _ _ r h2 fun F2 H2 v l2 r2 p2 => ?_
          obtain ⟨a', es, e0, e3, g⟩ := getT r2.sub (.dct (l2 _ _ f1) f2 (f3.mono l2)) p2 hk
          cases e0
          refine ⟨_, g, ?_⟩
          rcases e3.look k with ⟨z1, z2⟩ | ⟨d', w, z1, z2, z3⟩
          · rw [z2]
            rw [z1] at q
            exact q F2 H2 _ l2 r2 .non
          · rw [z2]
            rw [z1] at q
            exact q F2 H2 _ l2 r2 z3
        · cases h
      · cases h
  · cases h
/-- what slot i owns is data from here on -/
def sFrz (i : Nat) (f : Fs) : Fs := fun ρ => match f ρ with
  | some (.nx ρ1) => match freeze i ρ1 with
    | some (_, ρ2) => some (.nx ρ2)
    | none => none
  | r => r
theorem ds_frz (i : Nat) {f : Fs} (h1 : DS X st s f) : DS X st s (sFrz i f) := by
  intro Z B F ρ σ H r E R h q1 q2
  unfold sFrz at h
  split at h
  · rename_i ρ1 e1
    split at h
    · rename_i d ρ2 e2
      cases h
      refine h1 _ _ _ _ _ _ _ _ R e1 (fun ρ' eq F1 σ1 H1 l1 R1 => ?_) fun d ρ' eq => nomatch eq
      cases eq
      obtain ⟨v, F2, _, l2, R2, _⟩ := freeze_at R1 e2
      exact q1 _ rfl F2 σ1 H1 (l1.trans l2) R2
    · cases h
  · exact h1 _ _ _ _ _ _ _ _ R h q1 q2
end
end Kx
set_option Elab.async false
set_option linter.all false
set_option maxRecDepth 100000
set_option maxHeartbeats 4000000
namespace Kx
open PySem PySem.Spec PyProof.Rows L2
/-! ### is_between -/
abbrev s_is_between : Stmt := topS 9
theorem sc_is_between : FnScope ["value", "low", "high"] ["value", "low", "high"] (defScope s_is_between) := ⟨rfl, rfl, rfl, by decide +kernel, rfl, by decide +kernel, by decide +kernel⟩
def b_is_between : Fs := sCons (sRet (eAnd (e1 (gIsi isIntD) (eName 0)) (eAnd (e1 gNot (e1 (gIsi isBlD) (eName 0))) (eChain (gB fun i j => decide (i ≤ j)) (gB fun i j => decide (i ≤ j)) (eName 1) (eName 0) (eName 2))))) (sNil)
def F_is_between : List D → Option D := runD 3 3 b_is_between
theorem k_is_between {P : Program} {w : World} {K : PySem.W.Frag} {mg : Str → Option Value} {base : Heap} (T : Gs K mg) {f : Addr} {fd : FuncData} (F : Fun K "is_between" "is_between" s_is_between f fd) (gm : mg "is_between" = some (.ref f)) : DefOk P w K mg base "is_between" 1 3 F_is_between :=
  ⟨f, fd, ["value", "low", "high"], fn_pure F sc_is_between (by decide) (fun cdv A outer s H E hr => dss_cons (ds_ret (de_and (de_isi kit_int (de_name 0) (by rfl) T.b_isinstance bt_isinstance (by rfl) T.b_int bt_int) (de_and (de_not (de_isi kit_bool (de_name 0) (by rfl) T.b_isinstance bt_isinstance (by rfl) T.b_bool bt_bool)) (de_one (de_chain op_le op_le op2_B op2_B (de_name 1) (de_name 0) (de_name 2)))))) (dss_nil)), gm, F.kp, (F.binds fun _ _ _ _ _ _ us hl => match us, hl with | [_, _, _], _ => rfl)⟩

/-! ### is_side -/
abbrev s_is_side : Stmt := topS 10
theorem sc_is_side : FnScope ["value"] ["value"] (defScope s_is_side) := ⟨rfl, rfl, rfl, by decide +kernel, rfl, by decide +kernel, by decide +kernel⟩
def b_is_side : Fs := sCons (sRet (eOr (e1 gIsN (eName 0)) (eCall 3 F_is_between (aCons (eName 0) (aCons (e2 (gI fun i j => i - j) (eC (.int 0)) (eC (.int 100))) (aCons (eC (.int 100)) (aNil))))))) (sNil)
def F_is_side : List D → Option D := runD 1 1 b_is_side
theorem k_is_side {P : Program} {w : World} {K : PySem.W.Frag} {mg : Str → Option Value} {base : Heap} (T : Gs K mg) (c_is_between : DefOk P w K mg base "is_between" 1 3 F_is_between) {f : Addr} {fd : FuncData} (F : Fun K "is_side" "is_side" s_is_side f fd) (gm : mg "is_side" = some (.ref f)) : DefOk P w K mg base "is_side" 2 1 F_is_side :=
  ⟨f, fd, ["value"], fn_pure F sc_is_side (by decide) (fun cdv A outer s H E hr => dss_cons (ds_ret (de_or (de_isN (de_name 0)) (de_one (de_callD c_is_between hr (da_cons (de_name 0) (da_cons (de_sub (de_int) (de_globI (by rfl) (T.c_FARTHEST.choose_spec))) (da_cons (de_globI (by rfl) (T.c_FARTHEST.choose_spec)) (da_nil)))))))) (dss_nil)), gm, F.kp, (F.binds fun _ _ _ _ _ _ us hl => match us, hl with | [_], _ => rfl)⟩

/-! ### is_rule -/
abbrev s_is_rule : Stmt := topS 11
theorem sc_is_rule : FnScope ["value", "size", "start", "end", "low", "high"] ["value", "size"] (defScope s_is_rule) := ⟨rfl, rfl, rfl, by decide +kernel, rfl, by decide +kernel, by decide +kernel⟩
def b_is_rule : Fs := sCons (sIf (tOr' (tNot' (tE (e1 (gIsi isTupD) (eName 0)))) (tBl (e2 (gEqv true) (eN gLen (aCons (eName 0) (aNil))) (eC (.int 4))))) (sCons (sRet (eC (.bl false))) (sNil)) (sNil)) (sCons (sAsg (eName 0) (gTupT 4 (gsCons (gSet 2) (gsCons (gSet 3) (gsCons (gSet 4) (gsCons (gSet 5) (gsNil))))))) (sCons (sIf (tOr' (tNot' (tE (eCall 3 F_is_between (aCons (eName 2) (aCons (eC (.int 0)) (aCons (e2 (gI fun i j => i - j) (eName 1) (eC (.int 1))) (aNil))))))) (tOr' (tNot' (tE (eCall 3 F_is_between (aCons (eName 3) (aCons (eC (.int 0)) (aCons (e2 (gI fun i j => i - j) (eName 1) (eC (.int 1))) (aNil))))))) (tBl (e2 (gEqv false) (eName 2) (eName 3))))) (sCons (sRet (eC (.bl false))) (sNil)) (sNil)) (sCons (sRet (eAnd (eCall 1 F_is_side (aCons (eName 4) (aNil))) (eAnd (eCall 1 F_is_side (aCons (eName 5) (aNil))) (eOr (e1 gNotN (eName 4)) (e1 gNotN (eName 5)))))) (sNil))))
def F_is_rule : List D → Option D := runD 6 2 b_is_rule
theorem k_is_rule {P : Program} {w : World} {K : PySem.W.Frag} {mg : Str → Option Value} {base : Heap} (T : Gs K mg) (c_is_side : DefOk P w K mg base "is_side" 2 1 F_is_side) (c_is_between : DefOk P w K mg base "is_between" 1 3 F_is_between) {f : Addr} {fd : FuncData} (F : Fun K "is_rule" "is_rule" s_is_rule f fd) (gm : mg "is_rule" = some (.ref f)) : DefOk P w K mg base "is_rule" 3 2 F_is_rule :=
  ⟨f, fd, ["value", "size"], fn_pure F sc_is_rule (by decide) (fun cdv A outer s H E hr => dss_cons (ds_if (dt_w (dw_or (dt_not (dt_e (de_isi kit_tuple (de_name 0) (by rfl) T.b_isinstance bt_isinstance (by rfl) T.b_tuple bt_tuple))) (dw_or1 (dt_c (dc_ne hr.units (de_callB call_len opn_len (by rfl) T.b_len bt_len (da_cons (de_name 0) (da_nil))) (de_int)))))) (dss_cons (ds_ret (de_bl)) (dss_nil)) (dss_nil)) (dss_cons (ds_asg (de_name 0) (dg_tup rfl (dgs_cons (dg_name 2 sc_is_rule.nd) (dgs_cons (dg_name 3 sc_is_rule.nd) (dgs_cons (dg_name 4 sc_is_rule.nd) (dgs_cons (dg_name 5 sc_is_rule.nd) (dgs_nil))))))) (dss_cons (ds_if (dt_w (dw_or (dt_not (dt_e (de_callD c_is_between hr (da_cons (de_name 2) (da_cons (de_int) (da_cons (de_sub (de_name 1) (de_int)) (da_nil))))))) (dw_or (dt_not (dt_e (de_callD c_is_between hr (da_cons (de_name 3) (da_cons (de_int) (da_cons (de_sub (de_name 1) (de_int)) (da_nil))))))) (dw_or1 (dt_c (dc_eq hr.units (de_name 2) (de_name 3))))))) (dss_cons (ds_ret (de_bl)) (dss_nil)) (dss_nil)) (dss_cons (ds_ret (de_and (de_callD c_is_side hr (da_cons (de_name 4) (da_nil))) (de_and (de_callD c_is_side hr (da_cons (de_name 5) (da_nil))) (de_one (de_or (de_notN (de_name 4)) (de_one (de_notN (de_name 5)))))))) (dss_nil))))), gm, F.kp, (F.binds fun _ _ _ _ _ _ us hl => match us, hl with | [_, _], _ => rfl)⟩

/-! ### is_net -/
abbrev s_is_net : Stmt := topS 12
theorem sc_is_net : FnScope ["value", "rule"] ["value"] (defScope s_is_net) := ⟨rfl, rfl, rfl, by decide +kernel, rfl, by decide +kernel, by decide +kernel⟩
def b_is_net : Fs := sCons (sIf (tOr' (tNot' (tE (e1 (gIsi isTupD) (eName 0)))) (tOr' (tBl (e2 (gEqv true) (eN gLen (aCons (eName 0) (aNil))) (eC (.int 2)))) (tNot' (tE (eCall 3 F_is_between (aCons (e2 gIx (eName 0) (eC (.int 0))) (aCons (eC (.int 1)) (aCons (eC (.int 6)) (aNil))))))))) (sCons (sRet (eC (.bl false))) (sNil)) (sNil)) (sCons (sIf (tOr' (tNot' (tE (e1 (gIsi isTupD) (e2 gIx (eName 0) (eC (.int 1)))))) (tBl (e2 (gB fun i j => decide (j < i)) (eN gLen (aCons (e2 gIx (eName 0) (eC (.int 1))) (aNil))) (eC (.int 12))))) (sCons (sRet (eC (.bl false))) (sNil)) (sNil)) (sCons (sRet (eN gAll (aCons (eComp [1] (iSeq (e2 gIx (eName 0) (eC (.int 1)))) (gSet 1) (tYes') (eCall 2 F_is_rule (aCons (eName 1) (aCons (e2 gIx (eName 0) (eC (.int 0))) (aNil))))) (aNil)))) (sNil)))
def F_is_net : List D → Option D := runD 2 1 b_is_net
theorem k_is_net {P : Program} {w : World} {K : PySem.W.Frag} {mg : Str → Option Value} {base : Heap} (T : Gs K mg) (c_is_rule : DefOk P w K mg base "is_rule" 3 2 F_is_rule) (c_is_between : DefOk P w K mg base "is_between" 1 3 F_is_between) {f : Addr} {fd : FuncData} (F : Fun K "is_net" "is_net" s_is_net f fd) (gm : mg "is_net" = some (.ref f)) : DefOk P w K mg base "is_net" 4 1 F_is_net :=
  ⟨f, fd, ["value"], fn_pure F sc_is_net (by decide) (fun cdv A outer s H E hr => dss_cons (ds_if (dt_w (dw_or (dt_not (dt_e (de_isi kit_tuple (de_name 0) (by rfl) T.b_isinstance bt_isinstance (by rfl) T.b_tuple bt_tuple))) (dw_or (dt_c (dc_ne hr.units (de_callB call_len opn_len (by rfl) T.b_len bt_len (da_cons (de_name 0) (da_nil))) (de_int))) (dw_or1 (dt_not (dt_e (de_callD c_is_between hr (da_cons (de_ix (de_name 0) (de_int)) (da_cons (de_int) (da_cons (de_globI (by rfl) (T.c_MOST_EVENTS.choose_spec)) (da_nil))))))))))) (dss_cons (ds_ret (de_bl)) (dss_nil)) (dss_nil)) (dss_cons (ds_if (dt_w (dw_or (dt_not (dt_e (de_isi kit_tuple (de_ix (de_name 0) (de_int)) (by rfl) T.b_isinstance bt_isinstance (by rfl) T.b_tuple bt_tuple))) (dw_or1 (dt_c (dc_gt (de_callB call_len opn_len (by rfl) T.b_len bt_len (da_cons (de_ix (de_name 0) (de_int)) (da_nil))) (de_globI (by rfl) (T.c_MOST_RULES.choose_spec))))))) (dss_cons (ds_ret (de_bl)) (dss_nil)) (dss_nil)) (dss_cons (ds_ret (de_callB (cr_all rfl) opn_all (by rfl) T.b_all bt_all (da_cons (de_comp (own := [("rule", 1)]) rfl sc_is_net.nd (blkOk_by (by kernel_rfl)) (di_seq (de_ix (de_name 0) (de_int))) (fun _ _ _ _ _ => dgo_name 1 sc_is_net.nd (by decide)) (fun _ _ _ _ _ => dts_nil) (fun _ _ _ _ _ => de_callD c_is_rule hr (da_cons (de_name 1) (da_cons (de_ix (de_name 0) (de_int)) (da_nil))))) (da_nil)))) (dss_nil)))), gm, F.kp, (F.binds fun _ _ _ _ _ _ us hl => match us, hl with | [_], _ => rfl)⟩

/-! ### excess_of -/
abbrev s_excess_of : Stmt := topS 13
theorem sc_excess_of : FnScope ["rule", "times", "start", "end", "low", "high", "far"] ["rule", "times"] (defScope s_excess_of) := ⟨rfl, rfl, rfl, by decide +kernel, rfl, by decide +kernel, by decide +kernel⟩
def b_excess_of : Fs := sCons (sAsg (eName 0) (gTupT 4 (gsCons (gSet 2) (gsCons (gSet 3) (gsCons (gSet 4) (gsCons (gSet 5) (gsNil))))))) (sCons (sSet 6 (e2 (gI fun i j => i - j) (e2 gIx (eName 1) (eName 3)) (e2 gIx (eName 1) (eName 2)))) (sCons (sIf (tAnd' (tBl (e1 gNotN (eName 4))) (tBl (e2 (gB fun i j => decide (i < j)) (eName 6) (eName 4)))) (sCons (sRet (e2 (gI fun i j => i - j) (eName 6) (eName 4))) (sNil)) (sNil)) (sCons (sIf (tAnd' (tBl (e1 gNotN (eName 5))) (tBl (e2 (gB fun i j => decide (j < i)) (eName 6) (eName 5)))) (sCons (sRet (e2 (gI fun i j => i - j) (eName 6) (eName 5))) (sNil)) (sNil)) (sCons (sRet (eC (.int 0))) (sNil)))))
def F_excess_of : List D → Option D := runD 7 2 b_excess_of
theorem k_excess_of {P : Program} {w : World} {K : PySem.W.Frag} {mg : Str → Option Value} {base : Heap} (T : Gs K mg) {f : Addr} {fd : FuncData} (F : Fun K "excess_of" "excess_of" s_excess_of f fd) (gm : mg "excess_of" = some (.ref f)) : DefOk P w K mg base "excess_of" 1 2 F_excess_of :=
  ⟨f, fd, ["rule", "times"], fn_pure F sc_excess_of (by decide) (fun cdv A outer s H E hr => dss_cons (ds_asg (de_name 0) (dg_tup rfl (dgs_cons (dg_name 2 sc_excess_of.nd) (dgs_cons (dg_name 3 sc_excess_of.nd) (dgs_cons (dg_name 4 sc_excess_of.nd) (dgs_cons (dg_name 5 sc_excess_of.nd) (dgs_nil))))))) (dss_cons (ds_set 6 sc_excess_of.nd (de_sub (de_ix (de_name 1) (de_name 3)) (de_ix (de_name 1) (de_name 2)))) (dss_cons (ds_if (dt_w (dw_and (dt_c (dc_notN (de_name 4))) (dw_and1 (dt_c (dc_lt (de_name 6) (de_name 4)))))) (dss_cons (ds_ret (de_sub (de_name 6) (de_name 4))) (dss_nil)) (dss_nil)) (dss_cons (ds_if (dt_w (dw_and (dt_c (dc_notN (de_name 5))) (dw_and1 (dt_c (dc_gt (de_name 6) (de_name 5)))))) (dss_cons (ds_ret (de_sub (de_name 6) (de_name 5))) (dss_nil)) (dss_nil)) (dss_cons (ds_ret (de_int)) (dss_nil)))))), gm, F.kp, (F.binds fun _ _ _ _ _ _ us hl => match us, hl with | [_, _], _ => rfl)⟩

/-! ### all_hold -/
abbrev s_all_hold : Stmt := topS 14
theorem sc_all_hold : FnScope ["net", "times", "rule"] ["net", "times"] (defScope s_all_hold) := ⟨rfl, rfl, rfl, by decide +kernel, rfl, by decide +kernel, by decide +kernel⟩
def b_all_hold : Fs := sCons (sRet (eN gAll (aCons (eComp [2] (iSeq (e2 gIx (eName 0) (eC (.int 1)))) (gSet 2) (tYes') (e2 (gEqv false) (eCall 2 F_excess_of (aCons (eName 2) (aCons (eName 1) (aNil)))) (eC (.int 0)))) (aNil)))) (sNil)
def F_all_hold : List D → Option D := runD 3 2 b_all_hold
theorem k_all_hold {P : Program} {w : World} {K : PySem.W.Frag} {mg : Str → Option Value} {base : Heap} (T : Gs K mg) (c_excess_of : DefOk P w K mg base "excess_of" 1 2 F_excess_of) {f : Addr} {fd : FuncData} (F : Fun K "all_hold" "all_hold" s_all_hold f fd) (gm : mg "all_hold" = some (.ref f)) : DefOk P w K mg base "all_hold" 2 2 F_all_hold :=
  ⟨f, fd, ["net", "times"], fn_pure F sc_all_hold (by decide) (fun cdv A outer s H E hr => dss_cons (ds_ret (de_callB (cr_all rfl) opn_all (by rfl) T.b_all bt_all (da_cons (de_comp (own := [("rule", 2)]) rfl sc_all_hold.nd (blkOk_by (by kernel_rfl)) (di_seq (de_ix (de_name 0) (de_int))) (fun _ _ _ _ _ => dgo_name 2 sc_all_hold.nd (by decide)) (fun _ _ _ _ _ => dts_nil) (fun _ _ _ _ _ => de_eq hr.units (de_callD c_excess_of hr (da_cons (de_name 2) (da_cons (de_name 1) (da_nil)))) (de_int))) (da_nil)))) (dss_nil)), gm, F.kp, (F.binds fun _ _ _ _ _ _ us hl => match us, hl with | [_, _], _ => rfl)⟩
end Kx
set_option Elab.async false
set_option linter.all false
set_option maxRecDepth 100000
set_option maxHeartbeats 4000000
namespace Kx
open PySem PySem.Spec PyProof.Rows L2
/-! ### edges_of -/
abbrev s_edges_of : Stmt := topS 15
theorem sc_edges_of : FnScope ["net", "found", "at", "rule", "start", "end", "low", "high"] ["net"] (defScope s_edges_of) := ⟨rfl, rfl, rfl, by decide +kernel, rfl, by decide +kernel, by decide +kernel⟩
def b_edges_of : Fs := sCons (sNewL 1) (sCons (sFor [2, 3, 4, 5, 6, 7] (iEnumT (e2 gIx (eName 0) (eC (.int 1)))) (gTupT 2 (gsCons (gSet 2) (gsCons (gSet 3) (gsNil)))) (sCons (sAsg (eName 3) (gTupT 4 (gsCons (gSet 4) (gsCons (gSet 5) (gsCons (gSet 6) (gsCons (gSet 7) (gsNil))))))) (sCons (sIf (tBl (e1 gNotN (eName 7))) (sCons (sApp 1 (eN gTup (aCons (eN gTup (aCons (eName 2) (aCons (eC (.str "high")) (aNil)))) (aCons (eName 4) (aCons (eName 5) (aCons (eName 7) (aNil))))))) (sNil)) (sNil)) (sCons (sIf (tBl (e1 gNotN (eName 6))) (sCons (sApp 1 (eN gTup (aCons (eN gTup (aCons (eName 2) (aCons (eC (.str "low")) (aNil)))) (aCons (eName 5) (aCons (eName 4) (aCons (e2 (gI fun i j => i - j) (eC (.int 0)) (eName 6)) (aNil))))))) (sNil)) (sNil)) (sNil))))) (sCons (sRet (eName 1)) (sNil)))
def F_edges_of : List D → Option D := runD 8 1 b_edges_of
theorem k_edges_of {P : Program} {w : World} {K : PySem.W.Frag} {mg : Str → Option Value} {base : Heap} (T : Gs K mg) {f : Addr} {fd : FuncData} (F : Fun K "edges_of" "edges_of" s_edges_of f fd) (gm : mg "edges_of" = some (.ref f)) : DefOk P w K mg base "edges_of" 1 1 F_edges_of :=
  ⟨f, fd, ["net"], fn_pure F sc_edges_of (by decide) (fun cdv A outer s H E hr => dss_cons (ds_newL 1 sc_edges_of.nd) (dss_cons (ds_for [2, 3, 4, 5, 6, 7] PassesOwn.never rfl (di_enum (by rfl) T.b_enumerate (de_ix (de_name 0) (de_int))) (dg_tup rfl (dgs_cons (dg_name 2 sc_edges_of.nd) (dgs_cons (dg_name 3 sc_edges_of.nd) (dgs_nil)))) (dss_cons (ds_asg (de_name 3) (dg_tup rfl (dgs_cons (dg_name 4 sc_edges_of.nd) (dgs_cons (dg_name 5 sc_edges_of.nd) (dgs_cons (dg_name 6 sc_edges_of.nd) (dgs_cons (dg_name 7 sc_edges_of.nd) (dgs_nil))))))) (dss_cons (ds_if (dt_c (dc_notN (de_name 7))) (dss_cons (ds_app 1 (de_tup (da_cons (de_tup (da_cons (de_name 2) (da_cons (de_str) (da_nil)))) (da_cons (de_name 4) (da_cons (de_name 5) (da_cons (de_name 7) (da_nil))))))) (dss_nil)) (dss_nil)) (dss_cons (ds_if (dt_c (dc_notN (de_name 6))) (dss_cons (ds_app 1 (de_tup (da_cons (de_tup (da_cons (de_name 2) (da_cons (de_str) (da_nil)))) (da_cons (de_name 5) (da_cons (de_name 4) (da_cons (de_sub (de_int) (de_name 6)) (da_nil))))))) (dss_nil)) (dss_nil)) (dss_nil))))) (dss_cons (ds_ret (de_name 1)) (dss_nil)))), gm, F.kp, (F.binds fun _ _ _ _ _ _ us hl => match us, hl with | [_], _ => rfl)⟩

/-! ### edge_of -/
abbrev s_edge_of : Stmt := topS 16
theorem sc_edge_of : FnScope ["net", "value", "start", "end", "low", "high"] ["net", "value"] (defScope s_edge_of) := ⟨rfl, rfl, rfl, by decide +kernel, rfl, by decide +kernel, by decide +kernel⟩
def b_edge_of : Fs := sCons (sIf (tOr' (tNot' (tE (e1 (gIsi isTupD) (eName 1)))) (tOr' (tBl (e2 (gEqv true) (eN gLen (aCons (eName 1) (aNil))) (eC (.int 2)))) (tNot' (tE (eCall 3 F_is_between (aCons (e2 gIx (eName 1) (eC (.int 0))) (aCons (eC (.int 0)) (aCons (e2 (gI fun i j => i - j) (eN gLen (aCons (e2 gIx (eName 0) (eC (.int 1))) (aNil))) (eC (.int 1))) (aNil))))))))) (sCons (sRet (eC .non)) (sNil)) (sNil)) (sCons (sIf (tOr' (tNot' (tE (e1 (gIsi isStrD) (e2 gIx (eName 1) (eC (.int 1)))))) (tBl (e1 (gNotInT ["high", "low"]) (e2 gIx (eName 1) (eC (.int 1)))))) (sCons (sRet (eC .non)) (sNil)) (sNil)) (sCons (sAsg (e2 gIx (e2 gIx (eName 0) (eC (.int 1))) (e2 gIx (eName 1) (eC (.int 0)))) (gTupT 4 (gsCons (gSet 2) (gsCons (gSet 3) (gsCons (gSet 4) (gsCons (gSet 5) (gsNil))))))) (sCons (sIf (tBl (e2 (gEqv false) (e2 gIx (eName 1) (eC (.int 1))) (eC (.str "high")))) (sCons (sRet (eIf (tBl (e1 gIsN (eName 5))) (eC .non) (eN gTup (aCons (eName 2) (aCons (eName 3) (aCons (eName 5) (aNil))))))) (sNil)) (sNil)) (sCons (sRet (eIf (tBl (e1 gIsN (eName 4))) (eC .non) (eN gTup (aCons (eName 3) (aCons (eName 2) (aCons (e2 (gI fun i j => i - j) (eC (.int 0)) (eName 4)) (aNil))))))) (sNil)))))
def F_edge_of : List D → Option D := runD 6 2 b_edge_of
theorem k_edge_of {P : Program} {w : World} {K : PySem.W.Frag} {mg : Str → Option Value} {base : Heap} (T : Gs K mg) (c_is_between : DefOk P w K mg base "is_between" 1 3 F_is_between) {f : Addr} {fd : FuncData} (F : Fun K "edge_of" "edge_of" s_edge_of f fd) (gm : mg "edge_of" = some (.ref f)) : DefOk P w K mg base "edge_of" 2 2 F_edge_of :=
  ⟨f, fd, ["net", "value"], fn_pure F sc_edge_of (by decide) (fun cdv A outer s H E hr => dss_cons (ds_if (dt_w (dw_or (dt_not (dt_e (de_isi kit_tuple (de_name 1) (by rfl) T.b_isinstance bt_isinstance (by rfl) T.b_tuple bt_tuple))) (dw_or (dt_c (dc_ne hr.units (de_callB call_len opn_len (by rfl) T.b_len bt_len (da_cons (de_name 1) (da_nil))) (de_int))) (dw_or1 (dt_not (dt_e (de_callD c_is_between hr (da_cons (de_ix (de_name 1) (de_int)) (da_cons (de_int) (da_cons (de_sub (de_callB call_len opn_len (by rfl) T.b_len bt_len (da_cons (de_ix (de_name 0) (de_int)) (da_nil))) (de_int)) (da_nil))))))))))) (dss_cons (ds_ret (de_non)) (dss_nil)) (dss_nil)) (dss_cons (ds_if (dt_w (dw_or (dt_not (dt_e (de_isi kit_str (de_ix (de_name 1) (de_int)) (by rfl) T.b_isinstance bt_isinstance (by rfl) T.b_str bt_str))) (dw_or1 (dt_c (dc_notInK (zs := ["high", "low"]) (de_ix (de_name 1) (de_int)) (by rfl) T.c_SIDES.choose_spec.1 T.c_SIDES.choose_spec.2))))) (dss_cons (ds_ret (de_non)) (dss_nil)) (dss_nil)) (dss_cons (ds_asg (de_ix (de_ix (de_name 0) (de_int)) (de_ix (de_name 1) (de_int))) (dg_tup rfl (dgs_cons (dg_name 2 sc_edge_of.nd) (dgs_cons (dg_name 3 sc_edge_of.nd) (dgs_cons (dg_name 4 sc_edge_of.nd) (dgs_cons (dg_name 5 sc_edge_of.nd) (dgs_nil))))))) (dss_cons (ds_if (dt_c (dc_eq hr.units (de_ix (de_name 1) (de_int)) (de_str))) (dss_cons (ds_ret (de_if (dt_c (dc_isN (de_name 5))) (de_non) (de_tup (da_cons (de_name 2) (da_cons (de_name 3) (da_cons (de_name 5) (da_nil))))))) (dss_nil)) (dss_nil)) (dss_cons (ds_ret (de_if (dt_c (dc_isN (de_name 4))) (de_non) (de_tup (da_cons (de_name 3) (da_cons (de_name 2) (da_cons (de_sub (de_int) (de_name 4)) (da_nil))))))) (dss_nil)))))), gm, F.kp, (F.binds fun _ _ _ _ _ _ us hl => match us, hl with | [_, _], _ => rfl)⟩

/-! ### walk_end -/
abbrev s_walk_end : Stmt := topS 17
theorem sc_walk_end : FnScope ["net", "start", "walk", "here", "value", "edge"] ["net", "start", "walk"] (defScope s_walk_end) := ⟨rfl, rfl, rfl, by decide +kernel, rfl, by decide +kernel, by decide +kernel⟩
def b_walk_end : Fs := sCons (sIf (tNot' (tE (e1 (gIsi isTupD) (eName 2)))) (sCons (sRet (eC .non)) (sNil)) (sNil)) (sCons (sSet 3 (eName 1)) (sCons (sFor [4, 5] (iSeq (eName 2)) (gSet 4) (sCons (sSet 5 (eCall 2 F_edge_of (aCons (eName 0) (aCons (eName 4) (aNil))))) (sCons (sIf (tOr' (tBl (e1 gIsN (eName 5))) (tBl (e2 (gEqv true) (e2 gIx (eName 5) (eC (.int 0))) (eName 3)))) (sCons (sRet (eC .non)) (sNil)) (sNil)) (sCons (sSet 3 (e2 gIx (eName 5) (eC (.int 1)))) (sNil))))) (sCons (sRet (eName 3)) (sNil))))
def F_walk_end : List D → Option D := runD 6 3 b_walk_end
theorem k_walk_end {P : Program} {w : World} {K : PySem.W.Frag} {mg : Str → Option Value} {base : Heap} (T : Gs K mg) (c_edge_of : DefOk P w K mg base "edge_of" 2 2 F_edge_of) {f : Addr} {fd : FuncData} (F : Fun K "walk_end" "walk_end" s_walk_end f fd) (gm : mg "walk_end" = some (.ref f)) : DefOk P w K mg base "walk_end" 3 3 F_walk_end :=
  ⟨f, fd, ["net", "start", "walk"], fn_pure F sc_walk_end (by decide) (fun cdv A outer s H E hr => dss_cons (ds_if (dt_not (dt_e (de_isi kit_tuple (de_name 2) (by rfl) T.b_isinstance bt_isinstance (by rfl) T.b_tuple bt_tuple))) (dss_cons (ds_ret (de_non)) (dss_nil)) (dss_nil)) (dss_cons (ds_set 3 sc_walk_end.nd (de_name 1)) (dss_cons (ds_for [4, 5] PassesOwn.never rfl (di_seq (de_name 2)) (dg_name 4 sc_walk_end.nd) (dss_cons (ds_set 5 sc_walk_end.nd (de_callD c_edge_of hr (da_cons (de_name 0) (da_cons (de_name 4) (da_nil))))) (dss_cons (ds_if (dt_w (dw_or (dt_c (dc_isN (de_name 5))) (dw_or1 (dt_c (dc_ne hr.units (de_ix (de_name 5) (de_int)) (de_name 3)))))) (dss_cons (ds_ret (de_non)) (dss_nil)) (dss_nil)) (dss_cons (ds_set 3 sc_walk_end.nd (de_ix (de_name 5) (de_int))) (dss_nil))))) (dss_cons (ds_ret (de_name 3)) (dss_nil))))), gm, F.kp, (F.binds fun _ _ _ _ _ _ us hl => match us, hl with | [_, _, _], _ => rfl)⟩

/-! ### length_of -/
abbrev s_length_of : Stmt := topS 18
theorem sc_length_of : FnScope ["net", "walk", "value"] ["net", "walk"] (defScope s_length_of) := ⟨rfl, rfl, rfl, by decide +kernel, rfl, by decide +kernel, by decide +kernel⟩
def b_length_of : Fs := sCons (sRet (eN gSum (aCons (eComp [2] (iSeq (eName 1)) (gSet 2) (tYes') (e2 gIx (eCall 2 F_edge_of (aCons (eName 0) (aCons (eName 2) (aNil)))) (eC (.int 2)))) (aNil)))) (sNil)
def F_length_of : List D → Option D := runD 3 2 b_length_of
theorem k_length_of {P : Program} {w : World} {K : PySem.W.Frag} {mg : Str → Option Value} {base : Heap} (T : Gs K mg) (c_edge_of : DefOk P w K mg base "edge_of" 2 2 F_edge_of) {f : Addr} {fd : FuncData} (F : Fun K "length_of" "length_of" s_length_of f fd) (gm : mg "length_of" = some (.ref f)) : DefOk P w K mg base "length_of" 3 2 F_length_of :=
  ⟨f, fd, ["net", "walk"], fn_pure F sc_length_of (by decide) (fun cdv A outer s H E hr => dss_cons (ds_ret (de_callB (cr_sum rfl) opn_sum (by rfl) T.b_sum bt_sum (da_cons (de_comp (own := [("value", 2)]) rfl sc_length_of.nd (blkOk_by (by kernel_rfl)) (di_seq (de_name 1)) (fun _ _ _ _ _ => dgo_name 2 sc_length_of.nd (by decide)) (fun _ _ _ _ _ => dts_nil) (fun _ _ _ _ _ => de_ix (de_callD c_edge_of hr (da_cons (de_name 0) (da_cons (de_name 2) (da_nil)))) (de_int))) (da_nil)))) (dss_nil)), gm, F.kp, (F.binds fun _ _ _ _ _ _ us hl => match us, hl with | [_, _], _ => rfl)⟩

/-! ### is_integer -/
abbrev s_is_integer : Stmt := topS 20
theorem sc_is_integer : FnScope ["value"] ["value"] (defScope s_is_integer) := ⟨rfl, rfl, rfl, by decide +kernel, rfl, by decide +kernel, by decide +kernel⟩
def b_is_integer : Fs := sCons (sRet (eAnd (e1 (gIsi isIntD) (eName 0)) (e1 gNot (e1 (gIsi isBlD) (eName 0))))) (sNil)
def F_is_integer : List D → Option D := runD 1 1 b_is_integer
theorem k_is_integer {P : Program} {w : World} {K : PySem.W.Frag} {mg : Str → Option Value} {base : Heap} (T : Gs K mg) {f : Addr} {fd : FuncData} (F : Fun K "is_integer" "is_integer" s_is_integer f fd) (gm : mg "is_integer" = some (.ref f)) : DefOk P w K mg base "is_integer" 1 1 F_is_integer :=
  ⟨f, fd, ["value"], fn_pure F sc_is_integer (by decide) (fun cdv A outer s H E hr => dss_cons (ds_ret (de_and (de_isi kit_int (de_name 0) (by rfl) T.b_isinstance bt_isinstance (by rfl) T.b_int bt_int) (de_one (de_not (de_isi kit_bool (de_name 0) (by rfl) T.b_isinstance bt_isinstance (by rfl) T.b_bool bt_bool))))) (dss_nil)), gm, F.kp, (F.binds fun _ _ _ _ _ _ us hl => match us, hl with | [_], _ => rfl)⟩

/-! ### check_net -/
abbrev s_check_net : Stmt := topS 21
theorem sc_check_net : FnScope ["net"] ["net"] (defScope s_check_net) := ⟨rfl, rfl, rfl, by decide +kernel, rfl, by decide +kernel, by decide +kernel⟩
def b_check_net : Fs := sCons (sIf (tNot' (tE (eCall 1 F_is_net (aCons (eName 0) (aNil))))) (sCons (sNever) (sNil)) (sNil)) (sNil)
def F_check_net : List D → Option D := runD 1 1 b_check_net
theorem k_check_net {P : Program} {w : World} {K : PySem.W.Frag} {mg : Str → Option Value} {base : Heap} (T : Gs K mg) (c_is_net : DefOk P w K mg base "is_net" 4 1 F_is_net) {f : Addr} {fd : FuncData} (F : Fun K "check_net" "check_net" s_check_net f fd) (gm : mg "check_net" = some (.ref f)) : DefOk P w K mg base "check_net" 5 1 F_check_net :=
  ⟨f, fd, ["net"], fn_pure F sc_check_net (by decide) (fun cdv A outer s H E hr => dss_cons (ds_if (dt_not (dt_e (de_callD c_is_net hr (da_cons (de_name 0) (da_nil))))) (dss_cons (ds_never) (dss_nil)) (dss_nil)) (dss_nil)), gm, F.kp, (F.binds fun _ _ _ _ _ _ us hl => match us, hl with | [_], _ => rfl)⟩

/-! ### longer_walks -/
abbrev s_longer_walks : Stmt := topS 22
theorem sc_longer_walks : FnScope ["net", "walks", "found", "start", "here", "length", "walk", "edge", "near", "far", "weight"] ["net", "walks"] (defScope s_longer_walks) := ⟨rfl, rfl, rfl, by decide +kernel, rfl, by decide +kernel, by decide +kernel⟩
def b_longer_walks : Fs := sCons (sNewD 2) (sCons (sForK [3, 4, 5, 6, 7, 8, 9, 10] 1 (gTupT 2 (gsCons (gSet 3) (gsCons (gSet 4) (gsNil)))) (sCons (sAsg (e2 gDget (eName 1) (eN gTup (aCons (eName 3) (aCons (eName 4) (aNil))))) (gTupT 2 (gsCons (gSet 5) (gsCons (gSet 6) (gsNil))))) (sCons (sFor [7, 8, 9, 10] (iSeq (eCall 1 F_edges_of (aCons (eName 0) (aNil)))) (gTupT 4 (gsCons (gSet 7) (gsCons (gSet 8) (gsCons (gSet 9) (gsCons (gSet 10) (gsNil)))))) (sCons (sIf (tAnd' (tBl (e2 (gEqv false) (eName 8) (eName 4))) (tOr' (tBl (eDinO true 2 (eN gTup (aCons (eName 3) (aCons (eName 9) (aNil)))))) (tBl (e2 (gB fun i j => decide (i < j)) (e2 gAdd (eName 5) (eName 10)) (e2 gIx (eDgetO 2 (eN gTup (aCons (eName 3) (aCons (eName 9) (aNil))))) (eC (.int 0))))))) (sCons (sPut 2 (eN gTup (aCons (eName 3) (aCons (eName 9) (aNil)))) (eN gTup (aCons (e2 gAdd (eName 5) (eName 10)) (aCons (e2 gAdd (eName 6) (eN gTup (aCons (eName 7) (aNil)))) (aNil))))) (sNil)) (sNil)) (sNil))) (sNil)))) (sCons (sRet (eName 2)) (sNil)))
def F_longer_walks : List D → Option D := runD 11 2 b_longer_walks
theorem k_longer_walks {P : Program} {w : World} {K : PySem.W.Frag} {mg : Str → Option Value} {base : Heap} (T : Gs K mg) (c_edges_of : DefOk P w K mg base "edges_of" 1 1 F_edges_of) {f : Addr} {fd : FuncData} (F : Fun K "longer_walks" "longer_walks" s_longer_walks f fd) (gm : mg "longer_walks" = some (.ref f)) : DefOk P w K mg base "longer_walks" 2 2 F_longer_walks :=
  ⟨f, fd, ["net", "walks"], fn_pure F sc_longer_walks (by decide) (fun cdv A outer s H E hr => dss_cons (ds_newD 2 sc_longer_walks.nd) (dss_cons (ds_forK [3, 4, 5, 6, 7, 8, 9, 10] 1 PassesOwn.never rfl (dg_tup rfl (dgs_cons (dg_name 3 sc_longer_walks.nd) (dgs_cons (dg_name 4 sc_longer_walks.nd) (dgs_nil)))) (dss_cons (ds_asg (de_dget (hu_of hr) (de_name 1) (de_tup (da_cons (de_name 3) (da_cons (de_name 4) (da_nil))))) (dg_tup rfl (dgs_cons (dg_name 5 sc_longer_walks.nd) (dgs_cons (dg_name 6 sc_longer_walks.nd) (dgs_nil))))) (dss_cons (ds_for [7, 8, 9, 10] PassesOwn.never rfl (di_seq (de_callD c_edges_of hr (da_cons (de_name 0) (da_nil)))) (dg_tup rfl (dgs_cons (dg_name 7 sc_longer_walks.nd) (dgs_cons (dg_name 8 sc_longer_walks.nd) (dgs_cons (dg_name 9 sc_longer_walks.nd) (dgs_cons (dg_name 10 sc_longer_walks.nd) (dgs_nil)))))) (dss_cons (ds_if (dt_w (dw_and (dt_c (dc_eq hr.units (de_name 8) (de_name 4))) (dw_and1 (dt_w (dw_or (dt_c (dc_dnotinO 2 (hu_of hr) (de_tup (da_cons (de_name 3) (da_cons (de_name 9) (da_nil)))))) (dw_or1 (dt_c (dc_lt (de_add (de_name 5) (de_name 10)) (de_ix (de_dgetO 2 (hu_of hr) (de_tup (da_cons (de_name 3) (da_cons (de_name 9) (da_nil))))) (de_int)))))))))) (dss_cons (ds_put 2 (hu_of hr) (de_tup (da_cons (de_name 3) (da_cons (de_name 9) (da_nil)))) (de_tup (da_cons (de_add (de_name 5) (de_name 10)) (da_cons (de_add (de_name 6) (de_tup (da_cons (de_name 7) (da_nil)))) (da_nil))))) (dss_nil)) (dss_nil)) (dss_nil))) (dss_nil)))) (dss_cons (ds_ret (de_name 2)) (dss_nil)))), gm, F.kp, (F.binds fun _ _ _ _ _ _ us hl => match us, hl with | [_, _], _ => rfl)⟩

/-! ### first_round -/
abbrev s_first_round : Stmt := topS 23
theorem sc_first_round : FnScope ["net", "walks", "event", "turn"] ["net"] (defScope s_first_round) := ⟨rfl, rfl, rfl, by decide +kernel, rfl, by decide +kernel, by decide +kernel⟩
def b_first_round : Fs := sCons (sFrz 1 (sSetDc 1 [2] (iRange (e2 gIx (eName 0) (eC (.int 0)))) (gSet 2) (eN gTup (aCons (eName 2) (aCons (eName 2) (aNil)))) (eN gTup (aCons (eC (.int 0)) (aCons (eN gTup (aNil)) (aNil)))))) (sCons (sFor [2, 3] (iRange (e2 gIx (eName 0) (eC (.int 0)))) (gSet 3) (sCons (sSet 1 (eCall 2 F_longer_walks (aCons (eName 0) (aCons (eName 1) (aNil))))) (sCons (sFor [2] (iRange (e2 gIx (eName 0) (eC (.int 0)))) (gSet 2) (sCons (sIf (tAnd' (tBl (e2 (gDin false) (eN gTup (aCons (eName 2) (aCons (eName 2) (aNil)))) (eName 1))) (tBl (e2 (gB fun i j => decide (i < j)) (e2 gIx (e2 gDget (eName 1) (eN gTup (aCons (eName 2) (aCons (eName 2) (aNil))))) (eC (.int 0))) (eC (.int 0))))) (sCons (sRet (e2 gIx (e2 gDget (eName 1) (eN gTup (aCons (eName 2) (aCons (eName 2) (aNil))))) (eC (.int 1)))) (sNil)) (sNil)) (sNil))) (sNil)))) (sCons (sRet (eC .non)) (sNil)))
def F_first_round : List D → Option D := runD 4 1 b_first_round
theorem k_first_round {P : Program} {w : World} {K : PySem.W.Frag} {mg : Str → Option Value} {base : Heap} (T : Gs K mg) (c_longer_walks : DefOk P w K mg base "longer_walks" 2 2 F_longer_walks) {f : Addr} {fd : FuncData} (F : Fun K "first_round" "first_round" s_first_round f fd) (gm : mg "first_round" = some (.ref f)) : DefOk P w K mg base "first_round" 3 1 F_first_round :=
  ⟨f, fd, ["net"], fn_pure F sc_first_round (by decide) (fun cdv A outer s H E hr => dss_cons (ds_frz 1 (ds_setDc 1 (own := [("event", 2)]) (hu_of hr) rfl sc_first_round.nd (blkOk_by (by kernel_rfl)) (di_range (by rfl) T.b_range (de_ix (de_name 0) (de_int))) (fun _ _ _ _ _ => dgo_name 2 sc_first_round.nd (by decide)) (fun _ _ _ _ _ => de_tup (da_cons (de_name 2) (da_cons (de_name 2) (da_nil)))) (fun _ _ _ _ _ => de_tup (da_cons (de_int) (da_cons (de_tup (da_nil)) (da_nil)))))) (dss_cons (ds_for [2, 3] PassesOwn.never rfl (di_range (by rfl) T.b_range (de_ix (de_name 0) (de_int))) (dg_name 3 sc_first_round.nd) (dss_cons (ds_set 1 sc_first_round.nd (de_callD c_longer_walks hr (da_cons (de_name 0) (da_cons (de_name 1) (da_nil))))) (dss_cons (ds_for [2] PassesOwn.never rfl (di_range (by rfl) T.b_range (de_ix (de_name 0) (de_int))) (dg_name 2 sc_first_round.nd) (dss_cons (ds_if (dt_w (dw_and (dt_c (dc_din (hu_of hr) (de_tup (da_cons (de_name 2) (da_cons (de_name 2) (da_nil)))) (de_name 1))) (dw_and1 (dt_c (dc_lt (de_ix (de_dget (hu_of hr) (de_name 1) (de_tup (da_cons (de_name 2) (da_cons (de_name 2) (da_nil))))) (de_int)) (de_int)))))) (dss_cons (ds_ret (de_ix (de_dget (hu_of hr) (de_name 1) (de_tup (da_cons (de_name 2) (da_cons (de_name 2) (da_nil))))) (de_int))) (dss_nil)) (dss_nil)) (dss_nil))) (dss_nil)))) (dss_cons (ds_ret (de_non)) (dss_nil)))), gm, F.kp, (F.binds fun _ _ _ _ _ _ us hl => match us, hl with | [_], _ => rfl)⟩
end Kx
set_option Elab.async false
set_option linter.all false
set_option maxRecDepth 100000
set_option maxHeartbeats 4000000
namespace Kx
open PySem PySem.Spec PyProof.Rows L2
/-! ### with_walk -/
abbrev s_with_walk : Stmt := topS 25
theorem sc_with_walk : FnScope ["best", "pair", "value", "found", "key"] ["best", "pair", "value"] (defScope s_with_walk) := ⟨rfl, rfl, rfl, by decide +kernel, rfl, by decide +kernel, by decide +kernel⟩
def b_with_walk : Fs := sCons (sSetDcK 3 0 [4] (gSet 4) (eName 4) (e2 gDget (eName 0) (eName 4))) (sCons (sPut 3 (eName 1) (eName 2)) (sCons (sRet (eName 3)) (sNil)))
def F_with_walk : List D → Option D := runD 5 3 b_with_walk
theorem k_with_walk {P : Program} {w : World} {K : PySem.W.Frag} {mg : Str → Option Value} {base : Heap} (T : Gs K mg) {f : Addr} {fd : FuncData} (F : Fun K "with_walk" "with_walk" s_with_walk f fd) (gm : mg "with_walk" = some (.ref f)) : DefOk P w K mg base "with_walk" 1 3 F_with_walk :=
  ⟨f, fd, ["best", "pair", "value"], fn_pure F sc_with_walk (by decide) (fun cdv A outer s H E hr => dss_cons (ds_setDcK 3 0 (own := [("key", 4)]) (hu_of hr) rfl sc_with_walk.nd (blkOk_by (by kernel_rfl)) (fun _ _ _ _ _ => dgo_name 4 sc_with_walk.nd (by decide)) (fun _ _ _ _ _ => de_name 4) (fun _ _ _ _ _ => de_dget (hu_of hr) (de_name 0) (de_name 4))) (dss_cons (ds_put 3 (hu_of hr) (de_name 1) (de_name 2)) (dss_cons (ds_ret (de_name 3)) (dss_nil)))), gm, F.kp, (F.binds fun _ _ _ _ _ _ us hl => match us, hl with | [_, _, _], _ => rfl)⟩

/-! ### shortest_walks -/
abbrev s_shortest_walks : Stmt := topS 24
theorem sc_shortest_walks : FnScope ["net", "best", "event", "walks", "turn", "pair"] ["net"] (defScope s_shortest_walks) := ⟨rfl, rfl, rfl, by decide +kernel, rfl, by decide +kernel, by decide +kernel⟩
def b_shortest_walks : Fs := sCons (sFrz 1 (sSetDc 1 [2] (iRange (e2 gIx (eName 0) (eC (.int 0)))) (gSet 2) (eN gTup (aCons (eName 2) (aCons (eName 2) (aNil)))) (eN gTup (aCons (eC (.int 0)) (aCons (eN gTup (aNil)) (aNil)))))) (sCons (sSet 3 (eName 1)) (sCons (sFor [4, 5] (iRange (e2 (gI fun i j => i - j) (e2 gIx (eName 0) (eC (.int 0))) (eC (.int 1)))) (gSet 4) (sCons (sSet 3 (eCall 2 F_longer_walks (aCons (eName 0) (aCons (eName 3) (aNil))))) (sCons (sForK [5] 3 (gSet 5) (sCons (sIf (tOr' (tBl (e2 (gDin true) (eName 5) (eName 1))) (tBl (e2 (gB fun i j => decide (i < j)) (e2 gIx (e2 gDget (eName 3) (eName 5)) (eC (.int 0))) (e2 gIx (e2 gDget (eName 1) (eName 5)) (eC (.int 0)))))) (sCons (sSet 1 (eCall 3 F_with_walk (aCons (eName 1) (aCons (eName 5) (aCons (e2 gDget (eName 3) (eName 5)) (aNil)))))) (sNil)) (sNil)) (sNil))) (sNil)))) (sCons (sRet (eName 1)) (sNil))))
def F_shortest_walks : List D → Option D := runD 6 1 b_shortest_walks
theorem k_shortest_walks {P : Program} {w : World} {K : PySem.W.Frag} {mg : Str → Option Value} {base : Heap} (T : Gs K mg) (c_with_walk : DefOk P w K mg base "with_walk" 1 3 F_with_walk) (c_longer_walks : DefOk P w K mg base "longer_walks" 2 2 F_longer_walks) {f : Addr} {fd : FuncData} (F : Fun K "shortest_walks" "shortest_walks" s_shortest_walks f fd) (gm : mg "shortest_walks" = some (.ref f)) : DefOk P w K mg base "shortest_walks" 3 1 F_shortest_walks :=
  ⟨f, fd, ["net"], fn_pure F sc_shortest_walks (by decide) (fun cdv A outer s H E hr => dss_cons (ds_frz 1 (ds_setDc 1 (own := [("event", 2)]) (hu_of hr) rfl sc_shortest_walks.nd (blkOk_by (by kernel_rfl)) (di_range (by rfl) T.b_range (de_ix (de_name 0) (de_int))) (fun _ _ _ _ _ => dgo_name 2 sc_shortest_walks.nd (by decide)) (fun _ _ _ _ _ => de_tup (da_cons (de_name 2) (da_cons (de_name 2) (da_nil)))) (fun _ _ _ _ _ => de_tup (da_cons (de_int) (da_cons (de_tup (da_nil)) (da_nil)))))) (dss_cons (ds_set 3 sc_shortest_walks.nd (de_name 1)) (dss_cons (ds_for [4, 5] PassesOwn.never rfl (di_range (by rfl) T.b_range (de_sub (de_ix (de_name 0) (de_int)) (de_int))) (dg_name 4 sc_shortest_walks.nd) (dss_cons (ds_set 3 sc_shortest_walks.nd (de_callD c_longer_walks hr (da_cons (de_name 0) (da_cons (de_name 3) (da_nil))))) (dss_cons (ds_forK [5] 3 PassesOwn.never rfl (dg_name 5 sc_shortest_walks.nd) (dss_cons (ds_if (dt_w (dw_or (dt_c (dc_dnotin (hu_of hr) (de_name 5) (de_name 1))) (dw_or1 (dt_c (dc_lt (de_ix (de_dget (hu_of hr) (de_name 3) (de_name 5)) (de_int)) (de_ix (de_dget (hu_of hr) (de_name 1) (de_name 5)) (de_int))))))) (dss_cons (ds_set 1 sc_shortest_walks.nd (de_callD c_with_walk hr (da_cons (de_name 1) (da_cons (de_name 5) (da_cons (de_dget (hu_of hr) (de_name 3) (de_name 5)) (da_nil)))))) (dss_nil)) (dss_nil)) (dss_nil))) (dss_nil)))) (dss_cons (ds_ret (de_name 1)) (dss_nil))))), gm, F.kp, (F.binds fun _ _ _ _ _ _ us hl => match us, hl with | [_], _ => rfl)⟩

/-! ### bounds_of -/
abbrev s_bounds_of : Stmt := topS 26
theorem sc_bounds_of : FnScope ["net", "walks", "size", "j", "i"] ["net"] (defScope s_bounds_of) := ⟨rfl, rfl, rfl, by decide +kernel, rfl, by decide +kernel, by decide +kernel⟩
def b_bounds_of : Fs := sCons (sIf (tBl (e1 gNotN (eCall 1 F_first_round (aCons (eName 0) (aNil))))) (sCons (sRet (eC .non)) (sNil)) (sNil)) (sCons (sSet 1 (eCall 1 F_shortest_walks (aCons (eName 0) (aNil)))) (sCons (sSet 2 (e2 gIx (eName 0) (eC (.int 0)))) (sCons (sRet (eComp [4] (iRange (eName 2)) (gSet 4) (tYes') (eComp [3] (iRange (eName 2)) (gSet 3) (tYes') (eIf (tBl (e2 (gDin false) (eN gTup (aCons (eName 4) (aCons (eName 3) (aNil)))) (eName 1))) (e2 gIx (e2 gDget (eName 1) (eN gTup (aCons (eName 4) (aCons (eName 3) (aNil))))) (eC (.int 0))) (eC .non))))) (sNil))))
def F_bounds_of : List D → Option D := runD 5 1 b_bounds_of
theorem k_bounds_of {P : Program} {w : World} {K : PySem.W.Frag} {mg : Str → Option Value} {base : Heap} (T : Gs K mg) (c_shortest_walks : DefOk P w K mg base "shortest_walks" 3 1 F_shortest_walks) (c_first_round : DefOk P w K mg base "first_round" 3 1 F_first_round) {f : Addr} {fd : FuncData} (F : Fun K "bounds_of" "bounds_of" s_bounds_of f fd) (gm : mg "bounds_of" = some (.ref f)) : DefOk P w K mg base "bounds_of" 4 1 F_bounds_of :=
  ⟨f, fd, ["net"], fn_pure F sc_bounds_of (by decide) (fun cdv A outer s H E hr => dss_cons (ds_if (dt_c (dc_notN (de_callD c_first_round hr (da_cons (de_name 0) (da_nil))))) (dss_cons (ds_ret (de_non)) (dss_nil)) (dss_nil)) (dss_cons (ds_set 1 sc_bounds_of.nd (de_callD c_shortest_walks hr (da_cons (de_name 0) (da_nil)))) (dss_cons (ds_set 2 sc_bounds_of.nd (de_ix (de_name 0) (de_int))) (dss_cons (ds_ret (de_comp (own := [("i", 4)]) rfl sc_bounds_of.nd (blkOk_by (by kernel_rfl)) (di_range (by rfl) T.b_range (de_name 2)) (fun _ _ _ _ _ => dgo_name 4 sc_bounds_of.nd (by decide)) (fun _ _ _ _ _ => dts_nil) (fun _ _ _ _ _ => de_comp (own := [("j", 3)]) rfl sc_bounds_of.nd (blkOk_by (by kernel_rfl)) (di_range (by rfl) T.b_range (de_name 2)) (fun _ _ _ _ _ => dgo_name 3 sc_bounds_of.nd (by decide)) (fun _ _ _ _ _ => dts_nil) (fun _ _ _ _ _ => de_if (dt_c (dc_din (hu_of hr) (de_tup (da_cons (de_name 4) (da_cons (de_name 3) (da_nil)))) (de_name 1))) (de_ix (de_dget (hu_of hr) (de_name 1) (de_tup (da_cons (de_name 4) (da_cons (de_name 3) (da_nil))))) (de_int)) (de_non))))) (dss_nil))))), gm, F.kp, (F.binds fun _ _ _ _ _ _ us hl => match us, hl with | [_], _ => rfl)⟩

/-! ### check_kept -/
abbrev s_check_kept : Stmt := topS 27
theorem sc_check_kept : FnScope ["net"] ["net"] (defScope s_check_kept) := ⟨rfl, rfl, rfl, by decide +kernel, rfl, by decide +kernel, by decide +kernel⟩
def b_check_kept : Fs := sCons (sExpr (eCall 1 F_check_net (aCons (eName 0) (aNil)))) (sCons (sIf (tBl (e1 gNotN (eCall 1 F_first_round (aCons (eName 0) (aNil))))) (sCons (sNever) (sNil)) (sNil)) (sNil))
def F_check_kept : List D → Option D := runD 1 1 b_check_kept
theorem k_check_kept {P : Program} {w : World} {K : PySem.W.Frag} {mg : Str → Option Value} {base : Heap} (T : Gs K mg) (c_first_round : DefOk P w K mg base "first_round" 3 1 F_first_round) (c_check_net : DefOk P w K mg base "check_net" 5 1 F_check_net) {f : Addr} {fd : FuncData} (F : Fun K "check_kept" "check_kept" s_check_kept f fd) (gm : mg "check_kept" = some (.ref f)) : DefOk P w K mg base "check_kept" 6 1 F_check_kept :=
  ⟨f, fd, ["net"], fn_pure F sc_check_kept (by decide) (fun cdv A outer s H E hr => dss_cons (ds_expr (de_callD c_check_net hr (da_cons (de_name 0) (da_nil)))) (dss_cons (ds_if (dt_c (dc_notN (de_callD c_first_round hr (da_cons (de_name 0) (da_nil))))) (dss_cons (ds_never) (dss_nil)) (dss_nil)) (dss_nil))), gm, F.kp, (F.binds fun _ _ _ _ _ _ us hl => match us, hl with | [_], _ => rfl)⟩

/-! ### heights_of -/
abbrev s_heights_of : Stmt := topS 28
theorem sc_heights_of : FnScope ["net", "bounds", "heights", "event", "known", "other", "number"] ["net"] (defScope s_heights_of) := ⟨rfl, rfl, rfl, by decide +kernel, rfl, by decide +kernel, by decide +kernel⟩
def b_heights_of : Fs := sCons (sSet 1 (eCall 1 F_bounds_of (aCons (eName 0) (aNil)))) (sCons (sNewL 2) (sCons (sFor [3, 4, 5, 6] (iRange (e2 gIx (eName 0) (eC (.int 0)))) (gSet 3) (sCons (sSet 4 (eComp [5] (iRange (e2 gIx (eName 0) (eC (.int 0)))) (gSet 5) (tYes') (e2 gIx (e2 gIx (eName 1) (eName 5)) (eName 3)))) (sCons (sApp 2 (eN gMinL (aCons (eComp [6] (iSeq (eName 4)) (gSet 6) (tBl (e1 gNotN (eName 6))) (eName 6)) (aNil)))) (sNil)))) (sCons (sRet (eN gTupOf (aCons (eName 2) (aNil)))) (sNil))))
def F_heights_of : List D → Option D := runD 7 1 b_heights_of
theorem k_heights_of {P : Program} {w : World} {K : PySem.W.Frag} {mg : Str → Option Value} {base : Heap} (T : Gs K mg) (c_bounds_of : DefOk P w K mg base "bounds_of" 4 1 F_bounds_of) {f : Addr} {fd : FuncData} (F : Fun K "heights_of" "heights_of" s_heights_of f fd) (gm : mg "heights_of" = some (.ref f)) : DefOk P w K mg base "heights_of" 5 1 F_heights_of :=
  ⟨f, fd, ["net"], fn_pure F sc_heights_of (by decide) (fun cdv A outer s H E hr => dss_cons (ds_set 1 sc_heights_of.nd (de_callD c_bounds_of hr (da_cons (de_name 0) (da_nil)))) (dss_cons (ds_newL 2 sc_heights_of.nd) (dss_cons (ds_for [3, 4, 5, 6] PassesOwn.never rfl (di_range (by rfl) T.b_range (de_ix (de_name 0) (de_int))) (dg_name 3 sc_heights_of.nd) (dss_cons (ds_setLc 4 (own := [("other", 5)]) rfl sc_heights_of.nd (blkOk_by (by kernel_rfl)) (di_range (by rfl) T.b_range (de_ix (de_name 0) (de_int))) (fun _ _ _ _ _ => dgo_name 5 sc_heights_of.nd (by decide)) (fun _ _ _ _ _ => dts_nil) (fun _ _ _ _ _ => de_ix (de_ix (de_name 1) (de_name 5)) (de_name 3))) (dss_cons (ds_app 2 (de_callB (cr_min rfl) opn_minL (by rfl) T.b_min bt_min (da_cons (de_comp (own := [("number", 6)]) rfl sc_heights_of.nd (blkOk_by (by kernel_rfl)) (di_seq (de_name 4)) (fun _ _ _ _ _ => dgo_name 6 sc_heights_of.nd (by decide)) (fun _ _ _ _ _ => dts_one (dt_c (dc_notN (de_name 6)))) (fun _ _ _ _ _ => de_name 6)) (da_nil)))) (dss_nil)))) (dss_cons (ds_ret (de_callTy call_tuple_of opn_tupOf (by rfl) T.b_tuple bt_tuple (da_cons (de_name 2) (da_nil)))) (dss_nil))))), gm, F.kp, (F.binds fun _ _ _ _ _ _ us hl => match us, hl with | [_], _ => rfl)⟩

/-! ### are_heights -/
abbrev s_are_heights : Stmt := topS 29
theorem sc_are_heights : FnScope ["net", "value", "one"] ["net", "value"] (defScope s_are_heights) := ⟨rfl, rfl, rfl, by decide +kernel, rfl, by decide +kernel, by decide +kernel⟩
def b_are_heights : Fs := sCons (sRet (eAnd (e1 (gIsi isTupD) (eName 1)) (eAnd (e2 (gEqv false) (eN gLen (aCons (eName 1) (aNil))) (e2 gIx (eName 0) (eC (.int 0)))) (eN gAll (aCons (eComp [2] (iSeq (eName 1)) (gSet 2) (tYes') (eCall 1 F_is_integer (aCons (eName 2) (aNil)))) (aNil)))))) (sNil)
def F_are_heights : List D → Option D := runD 3 2 b_are_heights
theorem k_are_heights {P : Program} {w : World} {K : PySem.W.Frag} {mg : Str → Option Value} {base : Heap} (T : Gs K mg) (c_is_integer : DefOk P w K mg base "is_integer" 1 1 F_is_integer) {f : Addr} {fd : FuncData} (F : Fun K "are_heights" "are_heights" s_are_heights f fd) (gm : mg "are_heights" = some (.ref f)) : DefOk P w K mg base "are_heights" 2 2 F_are_heights :=
  ⟨f, fd, ["net", "value"], fn_pure F sc_are_heights (by decide) (fun cdv A outer s H E hr => dss_cons (ds_ret (de_and (de_isi kit_tuple (de_name 1) (by rfl) T.b_isinstance bt_isinstance (by rfl) T.b_tuple bt_tuple) (de_and (de_eq hr.units (de_callB call_len opn_len (by rfl) T.b_len bt_len (da_cons (de_name 1) (da_nil))) (de_ix (de_name 0) (de_int))) (de_one (de_callB (cr_all rfl) opn_all (by rfl) T.b_all bt_all (da_cons (de_comp (own := [("one", 2)]) rfl sc_are_heights.nd (blkOk_by (by kernel_rfl)) (di_seq (de_name 1)) (fun _ _ _ _ _ => dgo_name 2 sc_are_heights.nd (by decide)) (fun _ _ _ _ _ => dts_nil) (fun _ _ _ _ _ => de_callD c_is_integer hr (da_cons (de_name 2) (da_nil)))) (da_nil))))))) (dss_nil)), gm, F.kp, (F.binds fun _ _ _ _ _ _ us hl => match us, hl with | [_, _], _ => rfl)⟩

/-! ### are_right -/
abbrev s_are_right : Stmt := topS 30
theorem sc_are_right : FnScope ["net", "value"] ["net", "value"] (defScope s_are_right) := ⟨rfl, rfl, rfl, by decide +kernel, rfl, by decide +kernel, by decide +kernel⟩
def b_are_right : Fs := sCons (sRet (eAnd (eCall 2 F_are_heights (aCons (eName 0) (aCons (eName 1) (aNil)))) (eCall 2 F_all_hold (aCons (eName 0) (aCons (eName 1) (aNil)))))) (sNil)
def F_are_right : List D → Option D := runD 2 2 b_are_right
theorem k_are_right {P : Program} {w : World} {K : PySem.W.Frag} {mg : Str → Option Value} {base : Heap} (T : Gs K mg) (c_are_heights : DefOk P w K mg base "are_heights" 2 2 F_are_heights) (c_all_hold : DefOk P w K mg base "all_hold" 2 2 F_all_hold) {f : Addr} {fd : FuncData} (F : Fun K "are_right" "are_right" s_are_right f fd) (gm : mg "are_right" = some (.ref f)) : DefOk P w K mg base "are_right" 3 2 F_are_right :=
  ⟨f, fd, ["net", "value"], fn_pure F sc_are_right (by decide) (fun cdv A outer s H E hr => dss_cons (ds_ret (de_and (de_callD c_are_heights hr (da_cons (de_name 0) (da_cons (de_name 1) (da_nil)))) (de_one (de_callD c_all_hold hr (da_cons (de_name 0) (da_cons (de_name 1) (da_nil))))))) (dss_nil)), gm, F.kp, (F.binds fun _ _ _ _ _ _ us hl => match us, hl with | [_, _], _ => rfl)⟩

/-! ### is_event -/
abbrev s_is_event_b : Stmt := topS 31
theorem sc_is_event_b : FnScope ["net", "value"] ["net", "value"] (defScope s_is_event_b) := ⟨rfl, rfl, rfl, by decide +kernel, rfl, by decide +kernel, by decide +kernel⟩
def b_is_event_b : Fs := sCons (sRet (eAnd (eCall 1 F_is_integer (aCons (eName 1) (aNil))) (eChain (gB fun i j => decide (i ≤ j)) (gB fun i j => decide (i < j)) (eC (.int 0)) (eName 1) (e2 gIx (eName 0) (eC (.int 0)))))) (sNil)
def F_is_event_b : List D → Option D := runD 2 2 b_is_event_b
theorem k_is_event_b {P : Program} {w : World} {K : PySem.W.Frag} {mg : Str → Option Value} {base : Heap} (T : Gs K mg) (c_is_integer : DefOk P w K mg base "is_integer" 1 1 F_is_integer) {f : Addr} {fd : FuncData} (F : Fun K "is_event" "is_event" s_is_event_b f fd) (gm : mg "is_event_bounds" = some (.ref f)) : DefOk P w K mg base "is_event_bounds" 2 2 F_is_event_b :=
  ⟨f, fd, ["net", "value"], fn_pure F sc_is_event_b (by decide) (fun cdv A outer s H E hr => dss_cons (ds_ret (de_and (de_callD c_is_integer hr (da_cons (de_name 1) (da_nil))) (de_one (de_chain op_le op_lt op2_B op2_B (de_int) (de_name 1) (de_ix (de_name 0) (de_int)))))) (dss_nil)), gm, F.kp, (F.binds fun _ _ _ _ _ _ us hl => match us, hl with | [_, _], _ => rfl)⟩
end Kx
set_option Elab.async false
set_option linter.all false
set_option maxRecDepth 100000
set_option maxHeartbeats 4000000
namespace Kx
open PySem PySem.Spec PyProof.Rows L2
/-! ### check_two -/
abbrev s_check_two : Stmt := topS 33
theorem sc_check_two : FnScope ["net", "start", "end"] ["net", "start", "end"] (defScope s_check_two) := ⟨rfl, rfl, rfl, by decide +kernel, rfl, by decide +kernel, by decide +kernel⟩
def b_check_two : Fs := sCons (sExpr (eCall 1 F_check_net (aCons (eName 0) (aNil)))) (sCons (sIf (tNot' (tE (eCall 2 F_is_event_b (aCons (eName 0) (aCons (eName 1) (aNil)))))) (sCons (sNever) (sNil)) (sNil)) (sCons (sIf (tNot' (tE (eCall 2 F_is_event_b (aCons (eName 0) (aCons (eName 2) (aNil)))))) (sCons (sNever) (sNil)) (sNil)) (sNil)))
def F_check_two : List D → Option D := runD 3 3 b_check_two
theorem k_check_two {P : Program} {w : World} {K : PySem.W.Frag} {mg : Str → Option Value} {base : Heap} (T : Gs K mg) (c_is_event_b : DefOk P w K mg base "is_event_bounds" 2 2 F_is_event_b) (c_check_net : DefOk P w K mg base "check_net" 5 1 F_check_net) {f : Addr} {fd : FuncData} (F : Fun K "check_two" "check_two" s_check_two f fd) (gm : mg "check_two" = some (.ref f)) : DefOk P w K mg base "check_two" 6 3 F_check_two :=
  ⟨f, fd, ["net", "start", "end"], fn_pure F sc_check_two (by decide) (fun cdv A outer s H E hr => dss_cons (ds_expr (de_callD c_check_net hr (da_cons (de_name 0) (da_nil)))) (dss_cons (ds_if (dt_not (dt_e (de_callD c_is_event_b hr (da_cons (de_name 0) (da_cons (de_name 1) (da_nil)))))) (dss_cons (ds_never) (dss_nil)) (dss_nil)) (dss_cons (ds_if (dt_not (dt_e (de_callD c_is_event_b hr (da_cons (de_name 0) (da_cons (de_name 2) (da_nil)))))) (dss_cons (ds_never) (dss_nil)) (dss_nil)) (dss_nil)))), gm, F.kp, (F.binds fun _ _ _ _ _ _ us hl => match us, hl with | [_, _, _], _ => rfl)⟩

/-! ### pulled -/
abbrev s_pulled : Stmt := topS 34
theorem sc_pulled : FnScope ["net", "start", "bounds", "base", "known", "event", "lift", "other", "heights"] ["net", "start"] (defScope s_pulled) := ⟨rfl, rfl, rfl, by decide +kernel, rfl, by decide +kernel, by decide +kernel⟩
def b_pulled : Fs := sCons (sSet 2 (eCall 1 F_bounds_of (aCons (eName 0) (aNil)))) (sCons (sSet 3 (eCall 1 F_heights_of (aCons (eName 0) (aNil)))) (sCons (sSet 4 (eComp [5] (iRange (e2 gIx (eName 0) (eC (.int 0)))) (gSet 5) (tBl (e1 gNotN (e2 gIx (e2 gIx (eName 2) (eName 1)) (eName 5)))) (eName 5))) (sCons (sSet 6 (eN gMaxL (aCons (eComp [5] (iSeq (eName 4)) (gSet 5) (tYes') (e2 (gI fun i j => i - j) (e2 (gI fun i j => i - j) (e2 gIx (eName 3) (eName 5)) (e2 gIx (eName 3) (eName 1))) (e2 gIx (e2 gIx (eName 2) (eName 1)) (eName 5)))) (aNil)))) (sCons (sFor [5, 7] (iRange (e2 gIx (eName 0) (eC (.int 0)))) (gSet 5) (sCons (sIf (tBl (e2 (gInS true) (eName 5) (eName 4))) (sCons (sFor [7] (iSeq (eName 4)) (gSet 7) (sCons (sIf (tBl (e1 gNotN (e2 gIx (e2 gIx (eName 2) (eName 5)) (eName 7)))) (sCons (sSet 6 (eN gMax2 (aCons (eName 6) (aCons (e2 (gI fun i j => i - j) (e2 (gI fun i j => i - j) (e2 gIx (e2 gIx (eName 2) (eName 1)) (eName 7)) (e2 gIx (e2 gIx (eName 2) (eName 5)) (eName 7))) (e2 (gI fun i j => i - j) (e2 gIx (eName 3) (eName 5)) (e2 gIx (eName 3) (eName 1)))) (aNil))))) (sNil)) (sNil)) (sNil))) (sNil)) (sNil)) (sNil))) (sCons (sNewL 8) (sCons (sFor [5] (iRange (e2 gIx (eName 0) (eC (.int 0)))) (gSet 5) (sCons (sIf (tBl (e2 (gInS false) (eName 5) (eName 4))) (sCons (sApp 8 (e2 gIx (e2 gIx (eName 2) (eName 1)) (eName 5))) (sNil)) (sCons (sApp 8 (e2 gAdd (e2 (gI fun i j => i - j) (e2 gIx (eName 3) (eName 5)) (e2 gIx (eName 3) (eName 1))) (eName 6))) (sNil))) (sNil))) (sCons (sRet (eN gTupOf (aCons (eName 8) (aNil)))) (sNil))))))))
def F_pulled : List D → Option D := runD 9 2 b_pulled
theorem k_pulled {P : Program} {w : World} {K : PySem.W.Frag} {mg : Str → Option Value} {base : Heap} (T : Gs K mg) (c_heights_of : DefOk P w K mg base "heights_of" 5 1 F_heights_of) (c_bounds_of : DefOk P w K mg base "bounds_of" 4 1 F_bounds_of) {f : Addr} {fd : FuncData} (F : Fun K "pulled" "pulled" s_pulled f fd) (gm : mg "pulled" = some (.ref f)) : DefOk P w K mg base "pulled" 6 2 F_pulled :=
  ⟨f, fd, ["net", "start"], fn_pure F sc_pulled (by decide) (fun cdv A outer s H E hr => dss_cons (ds_set 2 sc_pulled.nd (de_callD c_bounds_of hr (da_cons (de_name 0) (da_nil)))) (dss_cons (ds_set 3 sc_pulled.nd (de_callD c_heights_of hr (da_cons (de_name 0) (da_nil)))) (dss_cons (ds_setLc 4 (own := [("event", 5)]) rfl sc_pulled.nd (blkOk_by (by kernel_rfl)) (di_range (by rfl) T.b_range (de_ix (de_name 0) (de_int))) (fun _ _ _ _ _ => dgo_name 5 sc_pulled.nd (by decide)) (fun _ _ _ _ _ => dts_one (dt_c (dc_notN (de_ix (de_ix (de_name 2) (de_name 1)) (de_name 5))))) (fun _ _ _ _ _ => de_name 5)) (dss_cons (ds_set 6 sc_pulled.nd (de_callB (cr_max rfl) opn_maxL (by rfl) T.b_max bt_max (da_cons (de_comp (own := [("event", 5)]) rfl sc_pulled.nd (blkOk_by (by kernel_rfl)) (di_seq (de_name 4)) (fun _ _ _ _ _ => dgo_name 5 sc_pulled.nd (by decide)) (fun _ _ _ _ _ => dts_nil) (fun _ _ _ _ _ => de_sub (de_sub (de_ix (de_name 3) (de_name 5)) (de_ix (de_name 3) (de_name 1))) (de_ix (de_ix (de_name 2) (de_name 1)) (de_name 5)))) (da_nil)))) (dss_cons (ds_for [5, 7] PassesOwn.never rfl (di_range (by rfl) T.b_range (de_ix (de_name 0) (de_int))) (dg_name 5 sc_pulled.nd) (dss_cons (ds_if (dt_c (dc_notInS (de_name 5) (de_name 4))) (dss_cons (ds_for [7] PassesOwn.never rfl (di_seq (de_name 4)) (dg_name 7 sc_pulled.nd) (dss_cons (ds_if (dt_c (dc_notN (de_ix (de_ix (de_name 2) (de_name 5)) (de_name 7)))) (dss_cons (ds_set 6 sc_pulled.nd (de_callB (call_max2 rfl) opn_max2 (by rfl) T.b_max bt_max (da_cons (de_name 6) (da_cons (de_sub (de_sub (de_ix (de_ix (de_name 2) (de_name 1)) (de_name 7)) (de_ix (de_ix (de_name 2) (de_name 5)) (de_name 7))) (de_sub (de_ix (de_name 3) (de_name 5)) (de_ix (de_name 3) (de_name 1)))) (da_nil))))) (dss_nil)) (dss_nil)) (dss_nil))) (dss_nil)) (dss_nil)) (dss_nil))) (dss_cons (ds_newL 8 sc_pulled.nd) (dss_cons (ds_for [5] PassesOwn.never rfl (di_range (by rfl) T.b_range (de_ix (de_name 0) (de_int))) (dg_name 5 sc_pulled.nd) (dss_cons (ds_if (dt_c (dc_inS (de_name 5) (de_name 4))) (dss_cons (ds_app 8 (de_ix (de_ix (de_name 2) (de_name 1)) (de_name 5))) (dss_nil)) (dss_cons (ds_app 8 (de_add (de_sub (de_ix (de_name 3) (de_name 5)) (de_ix (de_name 3) (de_name 1))) (de_name 6))) (dss_nil))) (dss_nil))) (dss_cons (ds_ret (de_callTy call_tuple_of opn_tupOf (by rfl) T.b_tuple bt_tuple (da_cons (de_name 8) (da_nil)))) (dss_nil))))))))), gm, F.kp, (F.binds fun _ _ _ _ _ _ us hl => match us, hl with | [_, _], _ => rfl)⟩

/-! ### bound_evidence -/
abbrev s_bound_evidence : Stmt := topS 35
theorem sc_bound_evidence : FnScope ["net", "start", "end", "walks", "event"] ["net", "start", "end"] (defScope s_bound_evidence) := ⟨rfl, rfl, rfl, by decide +kernel, rfl, by decide +kernel, by decide +kernel⟩
def b_bound_evidence : Fs := sCons (sExpr (eCall 3 F_check_two (aCons (eName 0) (aCons (eName 1) (aCons (eName 2) (aNil)))))) (sCons (sExpr (eCall 1 F_check_kept (aCons (eName 0) (aNil)))) (sCons (sSet 3 (eCall 1 F_shortest_walks (aCons (eName 0) (aNil)))) (sCons (sIf (tBl (e2 (gDin false) (eN gTup (aCons (eName 1) (aCons (eName 2) (aNil)))) (eName 3))) (sCons (sRet (eN gTup (aCons (e2 gIx (e2 gDget (eName 3) (eN gTup (aCons (eName 1) (aCons (eName 2) (aNil))))) (eC (.int 1))) (aCons (eCall 2 F_pulled (aCons (eName 0) (aCons (eName 1) (aNil)))) (aNil))))) (sNil)) (sNil)) (sCons (sRet (eN gTup (aCons (eCall 1 F_heights_of (aCons (eName 0) (aNil))) (aCons (eN gTupOf (aCons (eComp [4] (iRange (e2 gIx (eName 0) (eC (.int 0)))) (gSet 4) (tBl (e2 (gDin true) (eN gTup (aCons (eName 1) (aCons (eName 4) (aNil)))) (eName 3))) (eName 4)) (aNil))) (aNil))))) (sNil)))))
def F_bound_evidence : List D → Option D := runD 5 3 b_bound_evidence
theorem k_bound_evidence {P : Program} {w : World} {K : PySem.W.Frag} {mg : Str → Option Value} {base : Heap} (T : Gs K mg) (c_heights_of : DefOk P w K mg base "heights_of" 5 1 F_heights_of) (c_pulled : DefOk P w K mg base "pulled" 6 2 F_pulled) (c_shortest_walks : DefOk P w K mg base "shortest_walks" 3 1 F_shortest_walks) (c_check_kept : DefOk P w K mg base "check_kept" 6 1 F_check_kept) (c_check_two : DefOk P w K mg base "check_two" 6 3 F_check_two) {f : Addr} {fd : FuncData} (F : Fun K "bound_evidence" "bound_evidence" s_bound_evidence f fd) (gm : mg "bound_evidence" = some (.ref f)) : DefOk P w K mg base "bound_evidence" 7 3 F_bound_evidence :=
  ⟨f, fd, ["net", "start", "end"], fn_pure F sc_bound_evidence (by decide) (fun cdv A outer s H E hr => dss_cons (ds_expr (de_callD c_check_two hr (da_cons (de_name 0) (da_cons (de_name 1) (da_cons (de_name 2) (da_nil)))))) (dss_cons (ds_expr (de_callD c_check_kept hr (da_cons (de_name 0) (da_nil)))) (dss_cons (ds_set 3 sc_bound_evidence.nd (de_callD c_shortest_walks hr (da_cons (de_name 0) (da_nil)))) (dss_cons (ds_if (dt_c (dc_din (hu_of hr) (de_tup (da_cons (de_name 1) (da_cons (de_name 2) (da_nil)))) (de_name 3))) (dss_cons (ds_ret (de_tup (da_cons (de_ix (de_dget (hu_of hr) (de_name 3) (de_tup (da_cons (de_name 1) (da_cons (de_name 2) (da_nil))))) (de_int)) (da_cons (de_callD c_pulled hr (da_cons (de_name 0) (da_cons (de_name 1) (da_nil)))) (da_nil))))) (dss_nil)) (dss_nil)) (dss_cons (ds_ret (de_tup (da_cons (de_callD c_heights_of hr (da_cons (de_name 0) (da_nil))) (da_cons (de_callTy call_tuple_of opn_tupOf (by rfl) T.b_tuple bt_tuple (da_cons (de_comp (own := [("event", 4)]) rfl sc_bound_evidence.nd (blkOk_by (by kernel_rfl)) (di_range (by rfl) T.b_range (de_ix (de_name 0) (de_int))) (fun _ _ _ _ _ => dgo_name 4 sc_bound_evidence.nd (by decide)) (fun _ _ _ _ _ => dts_one (dt_c (dc_dnotin (hu_of hr) (de_tup (da_cons (de_name 1) (da_cons (de_name 4) (da_nil)))) (de_name 3)))) (fun _ _ _ _ _ => de_name 4)) (da_nil))) (da_nil))))) (dss_nil)))))), gm, F.kp, (F.binds fun _ _ _ _ _ _ us hl => match us, hl with | [_, _, _], _ => rfl)⟩

/-! ### is_set -/
abbrev s_is_set : Stmt := topS 36
theorem sc_is_set : FnScope ["net", "value", "event", "at"] ["net", "value"] (defScope s_is_set) := ⟨rfl, rfl, rfl, by decide +kernel, rfl, by decide +kernel, by decide +kernel⟩
def b_is_set : Fs := sCons (sIf (tOr' (tNot' (tE (e1 (gIsi isTupD) (eName 1)))) (tNot' (tE (eN gAll (aCons (eComp [2] (iSeq (eName 1)) (gSet 2) (tYes') (eCall 2 F_is_event_b (aCons (eName 0) (aCons (eName 2) (aNil))))) (aNil)))))) (sCons (sRet (eC (.bl false))) (sNil)) (sNil)) (sCons (sRet (eN gAll (aCons (eComp [3] (iRange (e2 (gI fun i j => i - j) (eN gLen (aCons (eName 1) (aNil))) (eC (.int 1)))) (gSet 3) (tYes') (e2 (gB fun i j => decide (i < j)) (e2 gIx (eName 1) (eName 3)) (e2 gIx (eName 1) (e2 gAdd (eName 3) (eC (.int 1)))))) (aNil)))) (sNil))
def F_is_set : List D → Option D := runD 4 2 b_is_set
theorem k_is_set {P : Program} {w : World} {K : PySem.W.Frag} {mg : Str → Option Value} {base : Heap} (T : Gs K mg) (c_is_event_b : DefOk P w K mg base "is_event_bounds" 2 2 F_is_event_b) {f : Addr} {fd : FuncData} (F : Fun K "is_set" "is_set" s_is_set f fd) (gm : mg "is_set" = some (.ref f)) : DefOk P w K mg base "is_set" 3 2 F_is_set :=
  ⟨f, fd, ["net", "value"], fn_pure F sc_is_set (by decide) (fun cdv A outer s H E hr => dss_cons (ds_if (dt_w (dw_or (dt_not (dt_e (de_isi kit_tuple (de_name 1) (by rfl) T.b_isinstance bt_isinstance (by rfl) T.b_tuple bt_tuple))) (dw_or1 (dt_not (dt_e (de_callB (cr_all rfl) opn_all (by rfl) T.b_all bt_all (da_cons (de_comp (own := [("event", 2)]) rfl sc_is_set.nd (blkOk_by (by kernel_rfl)) (di_seq (de_name 1)) (fun _ _ _ _ _ => dgo_name 2 sc_is_set.nd (by decide)) (fun _ _ _ _ _ => dts_nil) (fun _ _ _ _ _ => de_callD c_is_event_b hr (da_cons (de_name 0) (da_cons (de_name 2) (da_nil))))) (da_nil)))))))) (dss_cons (ds_ret (de_bl)) (dss_nil)) (dss_nil)) (dss_cons (ds_ret (de_callB (cr_all rfl) opn_all (by rfl) T.b_all bt_all (da_cons (de_comp (own := [("at", 3)]) rfl sc_is_set.nd (blkOk_by (by kernel_rfl)) (di_range (by rfl) T.b_range (de_sub (de_callB call_len opn_len (by rfl) T.b_len bt_len (da_cons (de_name 1) (da_nil))) (de_int))) (fun _ _ _ _ _ => dgo_name 3 sc_is_set.nd (by decide)) (fun _ _ _ _ _ => dts_nil) (fun _ _ _ _ _ => de_lt (de_ix (de_name 1) (de_name 3)) (de_ix (de_name 1) (de_add (de_name 3) (de_int))))) (da_nil)))) (dss_nil))), gm, F.kp, (F.binds fun _ _ _ _ _ _ us hl => match us, hl with | [_, _], _ => rfl)⟩

/-! ### accepts_bound -/
abbrev s_accepts_bound : Stmt := topS 37
theorem sc_accepts_bound : FnScope ["net", "start", "end", "number", "value", "heights", "chosen", "edge", "near", "far", "weight", "walk"] ["net", "start", "end", "number", "value"] (defScope s_accepts_bound) := ⟨rfl, rfl, rfl, by decide +kernel, rfl, by decide +kernel, by decide +kernel⟩
def b_accepts_bound : Fs := sCons (sExpr (eCall 3 F_check_two (aCons (eName 0) (aCons (eName 1) (aCons (eName 2) (aNil)))))) (sCons (sIf (tOr' (tNot' (tE (e1 (gIsi isTupD) (eName 4)))) (tBl (e2 (gEqv true) (eN gLen (aCons (eName 4) (aNil))) (eC (.int 2))))) (sCons (sRet (eC (.bl false))) (sNil)) (sNil)) (sCons (sIf (tBl (e1 gIsN (eName 3))) (sCons (sAsg (eName 4) (gTupT 2 (gsCons (gSet 5) (gsCons (gSet 6) (gsNil))))) (sCons (sIf (tOr' (tNot' (tE (eCall 2 F_are_right (aCons (eName 0) (aCons (eName 5) (aNil)))))) (tOr' (tNot' (tE (eCall 2 F_is_set (aCons (eName 0) (aCons (eName 6) (aNil)))))) (tOr' (tBl (e2 (gInS true) (eName 2) (eName 6))) (tBl (e2 (gInS false) (eName 1) (eName 6)))))) (sCons (sRet (eC (.bl false))) (sNil)) (sNil)) (sCons (sRet (e1 gNot (eN gAny (aCons (eComp [7, 8, 9, 10] (iSeq (eCall 1 F_edges_of (aCons (eName 0) (aNil)))) (gTupT 4 (gsCons (gSet 7) (gsCons (gSet 8) (gsCons (gSet 9) (gsCons (gSet 10) (gsNil)))))) (tYes') (eAnd (e2 (gInS true) (eName 8) (eName 6)) (e2 (gInS false) (eName 9) (eName 6)))) (aNil))))) (sNil)))) (sNil)) (sCons (sAsg (eName 4) (gTupT 2 (gsCons (gSet 11) (gsCons (gSet 5) (gsNil))))) (sCons (sIf (tOr' (tNot' (tE (eCall 1 F_is_integer (aCons (eName 3) (aNil))))) (tOr' (tNot' (tE (eCall 2 F_are_right (aCons (eName 0) (aCons (eName 5) (aNil)))))) (tBl (e2 (gEqv true) (e2 (gI fun i j => i - j) (e2 gIx (eName 5) (eName 2)) (e2 gIx (eName 5) (eName 1))) (eName 3))))) (sCons (sRet (eC (.bl false))) (sNil)) (sNil)) (sCons (sRet (eAnd (e2 (gEqv false) (eCall 3 F_walk_end (aCons (eName 0) (aCons (eName 1) (aCons (eName 11) (aNil))))) (eName 2)) (e2 (gEqv false) (eCall 2 F_length_of (aCons (eName 0) (aCons (eName 11) (aNil)))) (eName 3)))) (sNil))))))
def F_accepts_bound : List D → Option D := runD 12 5 b_accepts_bound
theorem k_accepts_bound {P : Program} {w : World} {K : PySem.W.Frag} {mg : Str → Option Value} {base : Heap} (T : Gs K mg) (c_walk_end : DefOk P w K mg base "walk_end" 3 3 F_walk_end) (c_length_of : DefOk P w K mg base "length_of" 3 2 F_length_of) (c_is_integer : DefOk P w K mg base "is_integer" 1 1 F_is_integer) (c_are_right : DefOk P w K mg base "are_right" 3 2 F_are_right) (c_edges_of : DefOk P w K mg base "edges_of" 1 1 F_edges_of) (c_is_set : DefOk P w K mg base "is_set" 3 2 F_is_set) (c_check_two : DefOk P w K mg base "check_two" 6 3 F_check_two) {f : Addr} {fd : FuncData} (F : Fun K "accepts_bound" "accepts_bound" s_accepts_bound f fd) (gm : mg "accepts_bound" = some (.ref f)) : DefOk P w K mg base "accepts_bound" 7 5 F_accepts_bound :=
  ⟨f, fd, ["net", "start", "end", "number", "value"], fn_pure F sc_accepts_bound (by decide) (fun cdv A outer s H E hr => dss_cons (ds_expr (de_callD c_check_two hr (da_cons (de_name 0) (da_cons (de_name 1) (da_cons (de_name 2) (da_nil)))))) (dss_cons (ds_if (dt_w (dw_or (dt_not (dt_e (de_isi kit_tuple (de_name 4) (by rfl) T.b_isinstance bt_isinstance (by rfl) T.b_tuple bt_tuple))) (dw_or1 (dt_c (dc_ne hr.units (de_callB call_len opn_len (by rfl) T.b_len bt_len (da_cons (de_name 4) (da_nil))) (de_int)))))) (dss_cons (ds_ret (de_bl)) (dss_nil)) (dss_nil)) (dss_cons (ds_if (dt_c (dc_isN (de_name 3))) (dss_cons (ds_asg (de_name 4) (dg_tup rfl (dgs_cons (dg_name 5 sc_accepts_bound.nd) (dgs_cons (dg_name 6 sc_accepts_bound.nd) (dgs_nil))))) (dss_cons (ds_if (dt_w (dw_or (dt_not (dt_e (de_callD c_are_right hr (da_cons (de_name 0) (da_cons (de_name 5) (da_nil)))))) (dw_or (dt_not (dt_e (de_callD c_is_set hr (da_cons (de_name 0) (da_cons (de_name 6) (da_nil)))))) (dw_or (dt_c (dc_notInS (de_name 2) (de_name 6))) (dw_or1 (dt_c (dc_inS (de_name 1) (de_name 6)))))))) (dss_cons (ds_ret (de_bl)) (dss_nil)) (dss_nil)) (dss_cons (ds_ret (de_not (de_callB (cr_any rfl) opn_any (by rfl) T.b_any bt_any (da_cons (de_comp (own := [("edge", 7), ("near", 8), ("far", 9), ("weight", 10)]) rfl sc_accepts_bound.nd (blkOk_by (by kernel_rfl)) (di_seq (de_callD c_edges_of hr (da_cons (de_name 0) (da_nil)))) (fun _ _ _ _ _ => dgo_tup rfl (dgso_cons (dgo_name 7 sc_accepts_bound.nd (by decide)) (dgso_cons (dgo_name 8 sc_accepts_bound.nd (by decide)) (dgso_cons (dgo_name 9 sc_accepts_bound.nd (by decide)) (dgso_cons (dgo_name 10 sc_accepts_bound.nd (by decide)) (dgso_nil)))))) (fun _ _ _ _ _ => dts_nil) (fun _ _ _ _ _ => de_and (de_notInS (de_name 8) (de_name 6)) (de_one (de_inS (de_name 9) (de_name 6))))) (da_nil))))) (dss_nil)))) (dss_nil)) (dss_cons (ds_asg (de_name 4) (dg_tup rfl (dgs_cons (dg_name 11 sc_accepts_bound.nd) (dgs_cons (dg_name 5 sc_accepts_bound.nd) (dgs_nil))))) (dss_cons (ds_if (dt_w (dw_or (dt_not (dt_e (de_callD c_is_integer hr (da_cons (de_name 3) (da_nil))))) (dw_or (dt_not (dt_e (de_callD c_are_right hr (da_cons (de_name 0) (da_cons (de_name 5) (da_nil)))))) (dw_or1 (dt_c (dc_ne hr.units (de_sub (de_ix (de_name 5) (de_name 2)) (de_ix (de_name 5) (de_name 1))) (de_name 3))))))) (dss_cons (ds_ret (de_bl)) (dss_nil)) (dss_nil)) (dss_cons (ds_ret (de_and (de_eq hr.units (de_callD c_walk_end hr (da_cons (de_name 0) (da_cons (de_name 1) (da_cons (de_name 11) (da_nil))))) (de_name 2)) (de_one (de_eq hr.units (de_callD c_length_of hr (da_cons (de_name 0) (da_cons (de_name 11) (da_nil)))) (de_name 3))))) (dss_nil))))))), gm, F.kp, (F.binds fun _ _ _ _ _ _ us hl => match us, hl with | [_, _, _, _, _], _ => rfl)⟩

/-! ### is_number -/
abbrev s_is_number : Stmt := topS 41
theorem sc_is_number : FnScope ["value"] ["value"] (defScope s_is_number) := ⟨rfl, rfl, rfl, by decide +kernel, rfl, by decide +kernel, by decide +kernel⟩
def b_is_number : Fs := sCons (sRet (eAnd (e1 (gIsi isIntD) (eName 0)) (e1 gNot (e1 (gIsi isBlD) (eName 0))))) (sNil)
def F_is_number : List D → Option D := runD 1 1 b_is_number
theorem k_is_number {P : Program} {w : World} {K : PySem.W.Frag} {mg : Str → Option Value} {base : Heap} (T : Gs K mg) {f : Addr} {fd : FuncData} (F : Fun K "is_number" "is_number" s_is_number f fd) (gm : mg "is_number" = some (.ref f)) : DefOk P w K mg base "is_number" 1 1 F_is_number :=
  ⟨f, fd, ["value"], fn_pure F sc_is_number (by decide) (fun cdv A outer s H E hr => dss_cons (ds_ret (de_and (de_isi kit_int (de_name 0) (by rfl) T.b_isinstance bt_isinstance (by rfl) T.b_int bt_int) (de_one (de_not (de_isi kit_bool (de_name 0) (by rfl) T.b_isinstance bt_isinstance (by rfl) T.b_bool bt_bool))))) (dss_nil)), gm, F.kp, (F.binds fun _ _ _ _ _ _ us hl => match us, hl with | [_], _ => rfl)⟩

/-! ### is_event -/
abbrev s_is_event_f : Stmt := topS 42
theorem sc_is_event_f : FnScope ["value", "net"] ["value", "net"] (defScope s_is_event_f) := ⟨rfl, rfl, rfl, by decide +kernel, rfl, by decide +kernel, by decide +kernel⟩
def b_is_event_f : Fs := sCons (sRet (eAnd (eCall 1 F_is_number (aCons (eName 0) (aNil))) (eChain (gB fun i j => decide (i ≤ j)) (gB fun i j => decide (i < j)) (eC (.int 0)) (eName 0) (e2 gIx (eName 1) (eC (.int 0)))))) (sNil)
def F_is_event_f : List D → Option D := runD 2 2 b_is_event_f
theorem k_is_event_f {P : Program} {w : World} {K : PySem.W.Frag} {mg : Str → Option Value} {base : Heap} (T : Gs K mg) (c_is_number : DefOk P w K mg base "is_number" 1 1 F_is_number) {f : Addr} {fd : FuncData} (F : Fun K "is_event" "is_event" s_is_event_f f fd) (gm : mg "is_event_fitting" = some (.ref f)) : DefOk P w K mg base "is_event_fitting" 2 2 F_is_event_f :=
  ⟨f, fd, ["value", "net"], fn_pure F sc_is_event_f (by decide) (fun cdv A outer s H E hr => dss_cons (ds_ret (de_and (de_callD c_is_number hr (da_cons (de_name 0) (da_nil))) (de_one (de_chain op_le op_lt op2_B op2_B (de_int) (de_name 0) (de_ix (de_name 1) (de_int)))))) (dss_nil)), gm, F.kp, (F.binds fun _ _ _ _ _ _ us hl => match us, hl with | [_, _], _ => rfl)⟩

/-! ### is_news -/
abbrev s_is_news : Stmt := topS 44
theorem sc_is_news : FnScope ["value", "net"] ["value", "net"] (defScope s_is_news) := ⟨rfl, rfl, rfl, by decide +kernel, rfl, by decide +kernel, by decide +kernel⟩
def b_is_news : Fs := sCons (sIf (tOr' (tNot' (tE (e1 (gIsi isTupD) (eName 0)))) (tOr' (tBl (e2 (gEqv true) (eN gLen (aCons (eName 0) (aNil))) (eC (.int 2)))) (tNot' (tE (eCall 2 F_is_event_f (aCons (e2 gIx (eName 0) (eC (.int 0))) (aCons (eName 1) (aNil)))))))) (sCons (sRet (eC (.bl false))) (sNil)) (sNil)) (sCons (sRet (eAnd (eCall 1 F_is_number (aCons (e2 gIx (eName 0) (eC (.int 1))) (aNil))) (e2 (gB fun i j => decide (i ≤ j)) (eN gAbs (aCons (e2 gIx (eName 0) (eC (.int 1))) (aNil))) (eC (.int 500))))) (sNil))
def F_is_news : List D → Option D := runD 2 2 b_is_news
theorem k_is_news {P : Program} {w : World} {K : PySem.W.Frag} {mg : Str → Option Value} {base : Heap} (T : Gs K mg) (c_is_number : DefOk P w K mg base "is_number" 1 1 F_is_number) (c_is_event_f : DefOk P w K mg base "is_event_fitting" 2 2 F_is_event_f) {f : Addr} {fd : FuncData} (F : Fun K "is_news" "is_news" s_is_news f fd) (gm : mg "is_news" = some (.ref f)) : DefOk P w K mg base "is_news" 3 2 F_is_news :=
  ⟨f, fd, ["value", "net"], fn_pure F sc_is_news (by decide) (fun cdv A outer s H E hr => dss_cons (ds_if (dt_w (dw_or (dt_not (dt_e (de_isi kit_tuple (de_name 0) (by rfl) T.b_isinstance bt_isinstance (by rfl) T.b_tuple bt_tuple))) (dw_or (dt_c (dc_ne hr.units (de_callB call_len opn_len (by rfl) T.b_len bt_len (da_cons (de_name 0) (da_nil))) (de_int))) (dw_or1 (dt_not (dt_e (de_callD c_is_event_f hr (da_cons (de_ix (de_name 0) (de_int)) (da_cons (de_name 1) (da_nil)))))))))) (dss_cons (ds_ret (de_bl)) (dss_nil)) (dss_nil)) (dss_cons (ds_ret (de_and (de_callD c_is_number hr (da_cons (de_ix (de_name 0) (de_int)) (da_nil))) (de_one (de_le (de_callB call_abs opn_abs (by rfl) T.b_abs bt_abs (da_cons (de_ix (de_name 0) (de_int)) (da_nil))) (de_globI (by rfl) (T.c_MOST_TIME.choose_spec)))))) (dss_nil))), gm, F.kp, (F.binds fun _ _ _ _ _ _ us hl => match us, hl with | [_, _], _ => rfl)⟩
end Kx
set_option Elab.async false
set_option linter.all false
set_option maxRecDepth 100000
set_option maxHeartbeats 4000000
namespace Kx
open PySem PySem.Spec PyProof.Rows L2
/-! ### is_row -/
abbrev s_is_row : Stmt := topS 45
theorem sc_is_row : FnScope ["value", "net", "news"] ["value", "net"] (defScope s_is_row) := ⟨rfl, rfl, rfl, by decide +kernel, rfl, by decide +kernel, by decide +kernel⟩
def b_is_row : Fs := sCons (sIf (tOr' (tNot' (tE (e1 (gIsi isTupD) (eName 0)))) (tBl (e2 (gB fun i j => decide (j < i)) (eN gLen (aCons (eName 0) (aNil))) (eC (.int 8))))) (sCons (sRet (eC (.bl false))) (sNil)) (sNil)) (sCons (sRet (eN gAll (aCons (eComp [2] (iSeq (eName 0)) (gSet 2) (tYes') (eCall 2 F_is_news (aCons (eName 2) (aCons (eName 1) (aNil))))) (aNil)))) (sNil))
def F_is_row : List D → Option D := runD 3 2 b_is_row
theorem k_is_row {P : Program} {w : World} {K : PySem.W.Frag} {mg : Str → Option Value} {base : Heap} (T : Gs K mg) (c_is_news : DefOk P w K mg base "is_news" 3 2 F_is_news) {f : Addr} {fd : FuncData} (F : Fun K "is_row" "is_row" s_is_row f fd) (gm : mg "is_row" = some (.ref f)) : DefOk P w K mg base "is_row" 4 2 F_is_row :=
  ⟨f, fd, ["value", "net"], fn_pure F sc_is_row (by decide) (fun cdv A outer s H E hr => dss_cons (ds_if (dt_w (dw_or (dt_not (dt_e (de_isi kit_tuple (de_name 0) (by rfl) T.b_isinstance bt_isinstance (by rfl) T.b_tuple bt_tuple))) (dw_or1 (dt_c (dc_gt (de_callB call_len opn_len (by rfl) T.b_len bt_len (da_cons (de_name 0) (da_nil))) (de_globI (by rfl) (T.c_MOST_NEWS.choose_spec))))))) (dss_cons (ds_ret (de_bl)) (dss_nil)) (dss_nil)) (dss_cons (ds_ret (de_callB (cr_all rfl) opn_all (by rfl) T.b_all bt_all (da_cons (de_comp (own := [("news", 2)]) rfl sc_is_row.nd (blkOk_by (by kernel_rfl)) (di_seq (de_name 0)) (fun _ _ _ _ _ => dgo_name 2 sc_is_row.nd (by decide)) (fun _ _ _ _ _ => dts_nil) (fun _ _ _ _ _ => de_callD c_is_news hr (da_cons (de_name 2) (da_cons (de_name 1) (da_nil))))) (da_nil)))) (dss_nil))), gm, F.kp, (F.binds fun _ _ _ _ _ _ us hl => match us, hl with | [_, _], _ => rfl)⟩

/-! ### kept_bounds -/
abbrev s_kept_bounds : Stmt := topS 46
theorem sc_kept_bounds : FnScope ["net", "bounds"] ["net"] (defScope s_kept_bounds) := ⟨rfl, rfl, rfl, by decide +kernel, rfl, by decide +kernel, by decide +kernel⟩
def b_kept_bounds : Fs := sCons (sSet 1 (eCall 1 F_bounds_of (aCons (eName 0) (aNil)))) (sCons (sIf (tBl (e1 gIsN (eName 1))) (sCons (sNever) (sNil)) (sNil)) (sCons (sRet (eName 1)) (sNil)))
def F_kept_bounds : List D → Option D := runD 2 1 b_kept_bounds
theorem k_kept_bounds {P : Program} {w : World} {K : PySem.W.Frag} {mg : Str → Option Value} {base : Heap} (T : Gs K mg) (c_bounds_of : DefOk P w K mg base "bounds_of" 4 1 F_bounds_of) {f : Addr} {fd : FuncData} (F : Fun K "kept_bounds" "kept_bounds" s_kept_bounds f fd) (gm : mg "kept_bounds" = some (.ref f)) : DefOk P w K mg base "kept_bounds" 5 1 F_kept_bounds :=
  ⟨f, fd, ["net"], fn_pure F sc_kept_bounds (by decide) (fun cdv A outer s H E hr => dss_cons (ds_set 1 sc_kept_bounds.nd (de_callD c_bounds_of hr (da_cons (de_name 0) (da_nil)))) (dss_cons (ds_if (dt_c (dc_isN (de_name 1))) (dss_cons (ds_never) (dss_nil)) (dss_nil)) (dss_cons (ds_ret (de_name 1)) (dss_nil)))), gm, F.kp, (F.binds fun _ _ _ _ _ _ us hl => match us, hl with | [_], _ => rfl)⟩

/-! ### check_row -/
abbrev s_check_row : Stmt := topS 48
theorem sc_check_row : FnScope ["net", "row"] ["net", "row"] (defScope s_check_row) := ⟨rfl, rfl, rfl, by decide +kernel, rfl, by decide +kernel, by decide +kernel⟩
def b_check_row : Fs := sCons (sIf (tNot' (tE (eCall 2 F_is_row (aCons (eName 1) (aCons (eName 0) (aNil)))))) (sCons (sNever) (sNil)) (sNil)) (sNil)
def F_check_row : List D → Option D := runD 2 2 b_check_row
theorem k_check_row {P : Program} {w : World} {K : PySem.W.Frag} {mg : Str → Option Value} {base : Heap} (T : Gs K mg) (c_is_row : DefOk P w K mg base "is_row" 4 2 F_is_row) {f : Addr} {fd : FuncData} (F : Fun K "check_row" "check_row" s_check_row f fd) (gm : mg "check_row" = some (.ref f)) : DefOk P w K mg base "check_row" 5 2 F_check_row :=
  ⟨f, fd, ["net", "row"], fn_pure F sc_check_row (by decide) (fun cdv A outer s H E hr => dss_cons (ds_if (dt_not (dt_e (de_callD c_is_row hr (da_cons (de_name 1) (da_cons (de_name 0) (da_nil)))))) (dss_cons (ds_never) (dss_nil)) (dss_nil)) (dss_nil)), gm, F.kp, (F.binds fun _ _ _ _ _ _ us hl => match us, hl with | [_, _], _ => rfl)⟩

/-! ### check_event -/
abbrev s_check_event : Stmt := topS 49
theorem sc_check_event : FnScope ["net", "event"] ["net", "event"] (defScope s_check_event) := ⟨rfl, rfl, rfl, by decide +kernel, rfl, by decide +kernel, by decide +kernel⟩
def b_check_event : Fs := sCons (sIf (tNot' (tE (eCall 2 F_is_event_b (aCons (eName 0) (aCons (eName 1) (aNil)))))) (sCons (sNever) (sNil)) (sNil)) (sNil)
def F_check_event : List D → Option D := runD 2 2 b_check_event
theorem k_check_event {P : Program} {w : World} {K : PySem.W.Frag} {mg : Str → Option Value} {base : Heap} (T : Gs K mg) (c_is_event_b : DefOk P w K mg base "is_event_bounds" 2 2 F_is_event_b) {f : Addr} {fd : FuncData} (F : Fun K "check_event" "check_event" s_check_event f fd) (gm : mg "check_event" = some (.ref f)) : DefOk P w K mg base "check_event" 3 2 F_check_event :=
  ⟨f, fd, ["net", "event"], fn_pure F sc_check_event (by decide) (fun cdv A outer s H E hr => dss_cons (ds_if (dt_not (dt_e (de_callD c_is_event_b hr (da_cons (de_name 0) (da_cons (de_name 1) (da_nil)))))) (dss_cons (ds_never) (dss_nil)) (dss_nil)) (dss_nil)), gm, F.kp, (F.binds fun _ _ _ _ _ _ us hl => match us, hl with | [_, _], _ => rfl)⟩

/-! ### marks -/
abbrev s_marks : Stmt := topS 50
theorem sc_marks : FnScope ["before", "after", "time", "low", "high"] ["before", "after", "time"] (defScope s_marks) := ⟨rfl, rfl, rfl, by decide +kernel, rfl, by decide +kernel, by decide +kernel⟩
def b_marks : Fs := sCons (sSet 3 (eIf (tBl (e1 gIsN (eName 0))) (eC .non) (e2 (gI fun i j => i - j) (eName 2) (eName 0)))) (sCons (sSet 4 (eIf (tBl (e1 gIsN (eName 1))) (eC .non) (e2 gAdd (eName 2) (eName 1)))) (sCons (sRet (eN gTup (aCons (eName 3) (aCons (eName 4) (aNil))))) (sNil)))
def F_marks : List D → Option D := runD 5 3 b_marks
theorem k_marks {P : Program} {w : World} {K : PySem.W.Frag} {mg : Str → Option Value} {base : Heap} (T : Gs K mg) {f : Addr} {fd : FuncData} (F : Fun K "marks" "marks" s_marks f fd) (gm : mg "marks" = some (.ref f)) : DefOk P w K mg base "marks" 1 3 F_marks :=
  ⟨f, fd, ["before", "after", "time"], fn_pure F sc_marks (by decide) (fun cdv A outer s H E hr => dss_cons (ds_set 3 sc_marks.nd (de_if (dt_c (dc_isN (de_name 0))) (de_non) (de_sub (de_name 2) (de_name 0)))) (dss_cons (ds_set 4 sc_marks.nd (de_if (dt_c (dc_isN (de_name 1))) (de_non) (de_add (de_name 2) (de_name 1)))) (dss_cons (ds_ret (de_tup (da_cons (de_name 3) (da_cons (de_name 4) (da_nil))))) (dss_nil)))), gm, F.kp, (F.binds fun _ _ _ _ _ _ us hl => match us, hl with | [_, _, _], _ => rfl)⟩

/-! ### clamped -/
abbrev s_clamped : Stmt := topS 51
theorem sc_clamped : FnScope ["limit", "low", "high"] ["limit", "low", "high"] (defScope s_clamped) := ⟨rfl, rfl, rfl, by decide +kernel, rfl, by decide +kernel, by decide +kernel⟩
def b_clamped : Fs := sCons (sIf (tBl (e1 gNotN (eName 1))) (sCons (sSet 0 (eN gMax2 (aCons (eName 0) (aCons (eName 1) (aNil))))) (sNil)) (sNil)) (sCons (sRet (eIf (tBl (e1 gIsN (eName 2))) (eName 0) (eN gMin2 (aCons (eName 0) (aCons (eName 2) (aNil)))))) (sNil))
def F_clamped : List D → Option D := runD 3 3 b_clamped
theorem k_clamped {P : Program} {w : World} {K : PySem.W.Frag} {mg : Str → Option Value} {base : Heap} (T : Gs K mg) {f : Addr} {fd : FuncData} (F : Fun K "clamped" "clamped" s_clamped f fd) (gm : mg "clamped" = some (.ref f)) : DefOk P w K mg base "clamped" 1 3 F_clamped :=
  ⟨f, fd, ["limit", "low", "high"], fn_pure F sc_clamped (by decide) (fun cdv A outer s H E hr => dss_cons (ds_if (dt_c (dc_notN (de_name 1))) (dss_cons (ds_set 0 sc_clamped.nd (de_callB (call_max2 rfl) opn_max2 (by rfl) T.b_max bt_max (da_cons (de_name 0) (da_cons (de_name 1) (da_nil))))) (dss_nil)) (dss_nil)) (dss_cons (ds_ret (de_if (dt_c (dc_isN (de_name 2))) (de_name 0) (de_callB (call_min2 rfl) opn_min2 (by rfl) T.b_min bt_min (da_cons (de_name 0) (da_cons (de_name 2) (da_nil)))))) (dss_nil))), gm, F.kp, (F.binds fun _ _ _ _ _ _ us hl => match us, hl with | [_, _, _], _ => rfl)⟩

/-! ### next_limits -/
abbrev s_next_limits : Stmt := topS 52
theorem sc_next_limits : FnScope ["pair", "low", "high", "least", "greatest"] ["pair", "low", "high"] (defScope s_next_limits) := ⟨rfl, rfl, rfl, by decide +kernel, rfl, by decide +kernel, by decide +kernel⟩
def b_next_limits : Fs := sCons (sAsg (eName 0) (gTupT 2 (gsCons (gSet 3) (gsCons (gSet 4) (gsNil))))) (sCons (sSet 3 (eIf (tBl (e1 gIsN (eName 3))) (eName 1) (eCall 3 F_clamped (aCons (eName 3) (aCons (eName 1) (aCons (eName 2) (aNil))))))) (sCons (sSet 4 (eIf (tBl (e1 gIsN (eName 4))) (eName 2) (eCall 3 F_clamped (aCons (eName 4) (aCons (eName 1) (aCons (eName 2) (aNil))))))) (sCons (sRet (eN gTup (aCons (eName 3) (aCons (eName 4) (aNil))))) (sNil))))
def F_next_limits : List D → Option D := runD 5 3 b_next_limits
theorem k_next_limits {P : Program} {w : World} {K : PySem.W.Frag} {mg : Str → Option Value} {base : Heap} (T : Gs K mg) (c_clamped : DefOk P w K mg base "clamped" 1 3 F_clamped) {f : Addr} {fd : FuncData} (F : Fun K "next_limits" "next_limits" s_next_limits f fd) (gm : mg "next_limits" = some (.ref f)) : DefOk P w K mg base "next_limits" 2 3 F_next_limits :=
  ⟨f, fd, ["pair", "low", "high"], fn_pure F sc_next_limits (by decide) (fun cdv A outer s H E hr => dss_cons (ds_asg (de_name 0) (dg_tup rfl (dgs_cons (dg_name 3 sc_next_limits.nd) (dgs_cons (dg_name 4 sc_next_limits.nd) (dgs_nil))))) (dss_cons (ds_set 3 sc_next_limits.nd (de_if (dt_c (dc_isN (de_name 3))) (de_name 1) (de_callD c_clamped hr (da_cons (de_name 3) (da_cons (de_name 1) (da_cons (de_name 2) (da_nil))))))) (dss_cons (ds_set 4 sc_next_limits.nd (de_if (dt_c (dc_isN (de_name 4))) (de_name 2) (de_callD c_clamped hr (da_cons (de_name 4) (da_cons (de_name 1) (da_cons (de_name 2) (da_nil))))))) (dss_cons (ds_ret (de_tup (da_cons (de_name 3) (da_cons (de_name 4) (da_nil))))) (dss_nil))))), gm, F.kp, (F.binds fun _ _ _ _ _ _ us hl => match us, hl with | [_, _, _], _ => rfl)⟩

/-! ### limits_of -/
abbrev s_limits_of : Stmt := topS 53
theorem sc_limits_of : FnScope ["bounds", "row", "event", "pair", "other", "time", "low", "high"] ["bounds", "row", "event"] (defScope s_limits_of) := ⟨rfl, rfl, rfl, by decide +kernel, rfl, by decide +kernel, by decide +kernel⟩
def b_limits_of : Fs := sCons (sSet 3 (eN gTup (aCons (eC .non) (aCons (eC .non) (aNil))))) (sCons (sFor [4, 5, 6, 7] (iSeq (eName 1)) (gTupT 2 (gsCons (gSet 4) (gsCons (gSet 5) (gsNil)))) (sCons (sAsg (eCall 3 F_marks (aCons (e2 gIx (e2 gIx (eName 0) (eName 2)) (eName 4)) (aCons (e2 gIx (e2 gIx (eName 0) (eName 4)) (eName 2)) (aCons (eName 5) (aNil))))) (gTupT 2 (gsCons (gSet 6) (gsCons (gSet 7) (gsNil))))) (sCons (sSet 3 (eCall 3 F_next_limits (aCons (eName 3) (aCons (eName 6) (aCons (eName 7) (aNil)))))) (sNil)))) (sCons (sRet (eName 3)) (sNil)))
def F_limits_of : List D → Option D := runD 8 3 b_limits_of
theorem k_limits_of {P : Program} {w : World} {K : PySem.W.Frag} {mg : Str → Option Value} {base : Heap} (T : Gs K mg) (c_next_limits : DefOk P w K mg base "next_limits" 2 3 F_next_limits) (c_marks : DefOk P w K mg base "marks" 1 3 F_marks) {f : Addr} {fd : FuncData} (F : Fun K "limits_of" "limits_of" s_limits_of f fd) (gm : mg "limits_of" = some (.ref f)) : DefOk P w K mg base "limits_of" 3 3 F_limits_of :=
  ⟨f, fd, ["bounds", "row", "event"], fn_pure F sc_limits_of (by decide) (fun cdv A outer s H E hr => dss_cons (ds_set 3 sc_limits_of.nd (de_tup (da_cons (de_non) (da_cons (de_non) (da_nil))))) (dss_cons (ds_for [4, 5, 6, 7] PassesOwn.never rfl (di_seq (de_name 1)) (dg_tup rfl (dgs_cons (dg_name 4 sc_limits_of.nd) (dgs_cons (dg_name 5 sc_limits_of.nd) (dgs_nil)))) (dss_cons (ds_asg (de_callD c_marks hr (da_cons (de_ix (de_ix (de_name 0) (de_name 2)) (de_name 4)) (da_cons (de_ix (de_ix (de_name 0) (de_name 4)) (de_name 2)) (da_cons (de_name 5) (da_nil))))) (dg_tup rfl (dgs_cons (dg_name 6 sc_limits_of.nd) (dgs_cons (dg_name 7 sc_limits_of.nd) (dgs_nil))))) (dss_cons (ds_set 3 sc_limits_of.nd (de_callD c_next_limits hr (da_cons (de_name 3) (da_cons (de_name 6) (da_cons (de_name 7) (da_nil)))))) (dss_nil)))) (dss_cons (ds_ret (de_name 3)) (dss_nil)))), gm, F.kp, (F.binds fun _ _ _ _ _ _ us hl => match us, hl with | [_, _, _], _ => rfl)⟩

/-! ### limits -/
abbrev s_limits : Stmt := topS 54
theorem sc_limits : FnScope ["net", "row", "bounds", "event"] ["net", "row"] (defScope s_limits) := ⟨rfl, rfl, rfl, by decide +kernel, rfl, by decide +kernel, by decide +kernel⟩
def b_limits : Fs := sCons (sExpr (eCall 1 F_check_net (aCons (eName 0) (aNil)))) (sCons (sExpr (eCall 2 F_check_row (aCons (eName 0) (aCons (eName 1) (aNil))))) (sCons (sSet 2 (eCall 1 F_kept_bounds (aCons (eName 0) (aNil)))) (sCons (sRet (eN gTupOf (aCons (eComp [3] (iRange (e2 gIx (eName 0) (eC (.int 0)))) (gSet 3) (tYes') (eCall 3 F_limits_of (aCons (eName 2) (aCons (eName 1) (aCons (eName 3) (aNil)))))) (aNil)))) (sNil))))
def F_limits : List D → Option D := runD 4 2 b_limits
theorem k_limits {P : Program} {w : World} {K : PySem.W.Frag} {mg : Str → Option Value} {base : Heap} (T : Gs K mg) (c_limits_of : DefOk P w K mg base "limits_of" 3 3 F_limits_of) (c_kept_bounds : DefOk P w K mg base "kept_bounds" 5 1 F_kept_bounds) (c_check_row : DefOk P w K mg base "check_row" 5 2 F_check_row) (c_check_net : DefOk P w K mg base "check_net" 5 1 F_check_net) {f : Addr} {fd : FuncData} (F : Fun K "limits" "limits" s_limits f fd) (gm : mg "limits" = some (.ref f)) : DefOk P w K mg base "limits" 6 2 F_limits :=
  ⟨f, fd, ["net", "row"], fn_pure F sc_limits (by decide) (fun cdv A outer s H E hr => dss_cons (ds_expr (de_callD c_check_net hr (da_cons (de_name 0) (da_nil)))) (dss_cons (ds_expr (de_callD c_check_row hr (da_cons (de_name 0) (da_cons (de_name 1) (da_nil))))) (dss_cons (ds_set 2 sc_limits.nd (de_callD c_kept_bounds hr (da_cons (de_name 0) (da_nil)))) (dss_cons (ds_ret (de_callTy call_tuple_of opn_tupOf (by rfl) T.b_tuple bt_tuple (da_cons (de_comp (own := [("event", 3)]) rfl sc_limits.nd (blkOk_by (by kernel_rfl)) (di_range (by rfl) T.b_range (de_ix (de_name 0) (de_int))) (fun _ _ _ _ _ => dgo_name 3 sc_limits.nd (by decide)) (fun _ _ _ _ _ => dts_nil) (fun _ _ _ _ _ => de_callD c_limits_of hr (da_cons (de_name 2) (da_cons (de_name 1) (da_cons (de_name 3) (da_nil)))))) (da_nil)))) (dss_nil))))), gm, F.kp, (F.binds fun _ _ _ _ _ _ us hl => match us, hl with | [_, _], _ => rfl)⟩

/-! ### limit_evidence -/
abbrev s_limit_evidence : Stmt := topS 55
theorem sc_limit_evidence : FnScope ["net", "row", "event", "bounds", "found", "other", "time", "before", "after"] ["net", "row", "event"] (defScope s_limit_evidence) := ⟨rfl, rfl, rfl, by decide +kernel, rfl, by decide +kernel, by decide +kernel⟩
def b_limit_evidence : Fs := sCons (sExpr (eCall 1 F_check_net (aCons (eName 0) (aNil)))) (sCons (sExpr (eCall 2 F_check_row (aCons (eName 0) (aCons (eName 1) (aNil))))) (sCons (sExpr (eCall 2 F_check_event (aCons (eName 0) (aCons (eName 2) (aNil))))) (sCons (sSet 3 (eCall 1 F_kept_bounds (aCons (eName 0) (aNil)))) (sCons (sNewL 4) (sCons (sFor [5, 6, 7, 8] (iSeq (eName 1)) (gTupT 2 (gsCons (gSet 5) (gsCons (gSet 6) (gsNil)))) (sCons (sSet 7 (eN gTup (aCons (e2 gIx (e2 gIx (eName 3) (eName 2)) (eName 5)) (aCons (eCall 3 F_bound_evidence (aCons (eName 0) (aCons (eName 2) (aCons (eName 5) (aNil))))) (aNil))))) (sCons (sSet 8 (eN gTup (aCons (e2 gIx (e2 gIx (eName 3) (eName 5)) (eName 2)) (aCons (eCall 3 F_bound_evidence (aCons (eName 0) (aCons (eName 5) (aCons (eName 2) (aNil))))) (aNil))))) (sCons (sApp 4 (eN gTup (aCons (eName 7) (aCons (eName 8) (aNil))))) (sNil))))) (sCons (sRet (eN gTupOf (aCons (eName 4) (aNil)))) (sNil)))))))
def F_limit_evidence : List D → Option D := runD 9 3 b_limit_evidence
theorem k_limit_evidence {P : Program} {w : World} {K : PySem.W.Frag} {mg : Str → Option Value} {base : Heap} (T : Gs K mg) (c_bound_evidence : DefOk P w K mg base "bound_evidence" 7 3 F_bound_evidence) (c_kept_bounds : DefOk P w K mg base "kept_bounds" 5 1 F_kept_bounds) (c_check_event : DefOk P w K mg base "check_event" 3 2 F_check_event) (c_check_row : DefOk P w K mg base "check_row" 5 2 F_check_row) (c_check_net : DefOk P w K mg base "check_net" 5 1 F_check_net) {f : Addr} {fd : FuncData} (F : Fun K "limit_evidence" "limit_evidence" s_limit_evidence f fd) (gm : mg "limit_evidence" = some (.ref f)) : DefOk P w K mg base "limit_evidence" 8 3 F_limit_evidence :=
  ⟨f, fd, ["net", "row", "event"], fn_pure F sc_limit_evidence (by decide) (fun cdv A outer s H E hr => dss_cons (ds_expr (de_callD c_check_net hr (da_cons (de_name 0) (da_nil)))) (dss_cons (ds_expr (de_callD c_check_row hr (da_cons (de_name 0) (da_cons (de_name 1) (da_nil))))) (dss_cons (ds_expr (de_callD c_check_event hr (da_cons (de_name 0) (da_cons (de_name 2) (da_nil))))) (dss_cons (ds_set 3 sc_limit_evidence.nd (de_callD c_kept_bounds hr (da_cons (de_name 0) (da_nil)))) (dss_cons (ds_newL 4 sc_limit_evidence.nd) (dss_cons (ds_for [5, 6, 7, 8] PassesOwn.never rfl (di_seq (de_name 1)) (dg_tup rfl (dgs_cons (dg_name 5 sc_limit_evidence.nd) (dgs_cons (dg_name 6 sc_limit_evidence.nd) (dgs_nil)))) (dss_cons (ds_set 7 sc_limit_evidence.nd (de_tup (da_cons (de_ix (de_ix (de_name 3) (de_name 2)) (de_name 5)) (da_cons (de_callD c_bound_evidence hr (da_cons (de_name 0) (da_cons (de_name 2) (da_cons (de_name 5) (da_nil))))) (da_nil))))) (dss_cons (ds_set 8 sc_limit_evidence.nd (de_tup (da_cons (de_ix (de_ix (de_name 3) (de_name 5)) (de_name 2)) (da_cons (de_callD c_bound_evidence hr (da_cons (de_name 0) (da_cons (de_name 5) (da_cons (de_name 2) (da_nil))))) (da_nil))))) (dss_cons (ds_app 4 (de_tup (da_cons (de_name 7) (da_cons (de_name 8) (da_nil))))) (dss_nil))))) (dss_cons (ds_ret (de_callTy call_tuple_of opn_tupOf (by rfl) T.b_tuple bt_tuple (da_cons (de_name 4) (da_nil)))) (dss_nil)))))))), gm, F.kp, (F.binds fun _ _ _ _ _ _ us hl => match us, hl with | [_, _, _], _ => rfl)⟩
end Kx
set_option Elab.async false
set_option linter.all false
set_option maxRecDepth 100000
set_option maxHeartbeats 4000000
namespace Kx
open PySem PySem.Spec PyProof.Rows L2
/-! ### is_two -/
abbrev s_is_two : Stmt := topS 56
theorem sc_is_two : FnScope ["value"] ["value"] (defScope s_is_two) := ⟨rfl, rfl, rfl, by decide +kernel, rfl, by decide +kernel, by decide +kernel⟩
def b_is_two : Fs := sCons (sRet (eAnd (e1 (gIsi isTupD) (eName 0)) (e2 (gEqv false) (eN gLen (aCons (eName 0) (aNil))) (eC (.int 2))))) (sNil)
def F_is_two : List D → Option D := runD 1 1 b_is_two
theorem k_is_two {P : Program} {w : World} {K : PySem.W.Frag} {mg : Str → Option Value} {base : Heap} (T : Gs K mg) {f : Addr} {fd : FuncData} (F : Fun K "is_two" "is_two" s_is_two f fd) (gm : mg "is_two" = some (.ref f)) : DefOk P w K mg base "is_two" 1 1 F_is_two :=
  ⟨f, fd, ["value"], fn_pure F sc_is_two (by decide) (fun cdv A outer s H E hr => dss_cons (ds_ret (de_and (de_isi kit_tuple (de_name 0) (by rfl) T.b_isinstance bt_isinstance (by rfl) T.b_tuple bt_tuple) (de_one (de_eq hr.units (de_callB call_len opn_len (by rfl) T.b_len bt_len (da_cons (de_name 0) (da_nil))) (de_int))))) (dss_nil)), gm, F.kp, (F.binds fun _ _ _ _ _ _ us hl => match us, hl with | [_], _ => rfl)⟩

/-! ### are_limits -/
abbrev s_are_limits : Stmt := topS 57
theorem sc_are_limits : FnScope ["value", "one"] ["value"] (defScope s_are_limits) := ⟨rfl, rfl, rfl, by decide +kernel, rfl, by decide +kernel, by decide +kernel⟩
def b_are_limits : Fs := sCons (sRet (eAnd (eCall 1 F_is_two (aCons (eName 0) (aNil))) (eN gAll (aCons (eComp [1] (iSeq (eName 0)) (gSet 1) (tYes') (eOr (e1 gIsN (eName 1)) (eCall 1 F_is_integer (aCons (eName 1) (aNil))))) (aNil))))) (sNil)
def F_are_limits : List D → Option D := runD 2 1 b_are_limits
theorem k_are_limits {P : Program} {w : World} {K : PySem.W.Frag} {mg : Str → Option Value} {base : Heap} (T : Gs K mg) (c_is_two : DefOk P w K mg base "is_two" 1 1 F_is_two) (c_is_integer : DefOk P w K mg base "is_integer" 1 1 F_is_integer) {f : Addr} {fd : FuncData} (F : Fun K "are_limits" "are_limits" s_are_limits f fd) (gm : mg "are_limits" = some (.ref f)) : DefOk P w K mg base "are_limits" 2 1 F_are_limits :=
  ⟨f, fd, ["value"], fn_pure F sc_are_limits (by decide) (fun cdv A outer s H E hr => dss_cons (ds_ret (de_and (de_callD c_is_two hr (da_cons (de_name 0) (da_nil))) (de_one (de_callB (cr_all rfl) opn_all (by rfl) T.b_all bt_all (da_cons (de_comp (own := [("one", 1)]) rfl sc_are_limits.nd (blkOk_by (by kernel_rfl)) (di_seq (de_name 0)) (fun _ _ _ _ _ => dgo_name 1 sc_are_limits.nd (by decide)) (fun _ _ _ _ _ => dts_nil) (fun _ _ _ _ _ => de_or (de_isN (de_name 1)) (de_one (de_callD c_is_integer hr (da_cons (de_name 1) (da_nil)))))) (da_nil)))))) (dss_nil)), gm, F.kp, (F.binds fun _ _ _ _ _ _ us hl => match us, hl with | [_], _ => rfl)⟩

/-! ### accepts_limits -/
abbrev s_accepts_limits : Stmt := topS 58
theorem sc_accepts_limits : FnScope ["net", "row", "event", "pair", "value", "found", "news", "item", "low", "high"] ["net", "row", "event", "pair", "value"] (defScope s_accepts_limits) := ⟨rfl, rfl, rfl, by decide +kernel, rfl, by decide +kernel, by decide +kernel⟩
def b_accepts_limits : Fs := sCons (sExpr (eCall 1 F_check_net (aCons (eName 0) (aNil)))) (sCons (sExpr (eCall 2 F_check_row (aCons (eName 0) (aCons (eName 1) (aNil))))) (sCons (sExpr (eCall 2 F_check_event (aCons (eName 0) (aCons (eName 2) (aNil))))) (sCons (sExpr (eCall 1 F_kept_bounds (aCons (eName 0) (aNil)))) (sCons (sIf (tOr' (tNot' (tE (eCall 1 F_are_limits (aCons (eName 3) (aNil))))) (tOr' (tNot' (tE (e1 (gIsi isTupD) (eName 4)))) (tBl (e2 (gEqv true) (eN gLen (aCons (eName 4) (aNil))) (eN gLen (aCons (eName 1) (aNil))))))) (sCons (sRet (eC (.bl false))) (sNil)) (sNil)) (sCons (sSet 5 (eN gTup (aCons (eC .non) (aCons (eC .non) (aNil))))) (sCons (sFor [6, 7, 8, 9] (iZip (eName 1) (eName 4)) (gTupT 2 (gsCons (gSet 6) (gsCons (gSet 7) (gsNil)))) (sCons (sIf (tOr' (tNot' (tE (eCall 1 F_is_two (aCons (eName 7) (aNil))))) (tOr' (tNot' (tE (eCall 1 F_is_two (aCons (e2 gIx (eName 7) (eC (.int 0))) (aNil))))) (tNot' (tE (eCall 1 F_is_two (aCons (e2 gIx (eName 7) (eC (.int 1))) (aNil))))))) (sCons (sRet (eC (.bl false))) (sNil)) (sNil)) (sCons (sIf (tNot' (tE (eCall 5 F_accepts_bound (aCons (eName 0) (aCons (eName 2) (aCons (e2 gIx (eName 6) (eC (.int 0))) (aCons (e2 gIx (e2 gIx (eName 7) (eC (.int 0))) (eC (.int 0))) (aCons (e2 gIx (e2 gIx (eName 7) (eC (.int 0))) (eC (.int 1))) (aNil))))))))) (sCons (sRet (eC (.bl false))) (sNil)) (sNil)) (sCons (sIf (tNot' (tE (eCall 5 F_accepts_bound (aCons (eName 0) (aCons (e2 gIx (eName 6) (eC (.int 0))) (aCons (eName 2) (aCons (e2 gIx (e2 gIx (eName 7) (eC (.int 1))) (eC (.int 0))) (aCons (e2 gIx (e2 gIx (eName 7) (eC (.int 1))) (eC (.int 1))) (aNil))))))))) (sCons (sRet (eC (.bl false))) (sNil)) (sNil)) (sCons (sAsg (eCall 3 F_marks (aCons (e2 gIx (e2 gIx (eName 7) (eC (.int 0))) (eC (.int 0))) (aCons (e2 gIx (e2 gIx (eName 7) (eC (.int 1))) (eC (.int 0))) (aCons (e2 gIx (eName 6) (eC (.int 1))) (aNil))))) (gTupT 2 (gsCons (gSet 8) (gsCons (gSet 9) (gsNil))))) (sCons (sSet 5 (eCall 3 F_next_limits (aCons (eName 5) (aCons (eName 8) (aCons (eName 9) (aNil)))))) (sNil))))))) (sCons (sRet (e2 (gEqv false) (eName 5) (eName 3))) (sNil))))))))
def F_accepts_limits : List D → Option D := runD 10 5 b_accepts_limits
theorem k_accepts_limits {P : Program} {w : World} {K : PySem.W.Frag} {mg : Str → Option Value} {base : Heap} (T : Gs K mg) (c_next_limits : DefOk P w K mg base "next_limits" 2 3 F_next_limits) (c_marks : DefOk P w K mg base "marks" 1 3 F_marks) (c_accepts_bound : DefOk P w K mg base "accepts_bound" 7 5 F_accepts_bound) (c_is_two : DefOk P w K mg base "is_two" 1 1 F_is_two) (c_are_limits : DefOk P w K mg base "are_limits" 2 1 F_are_limits) (c_kept_bounds : DefOk P w K mg base "kept_bounds" 5 1 F_kept_bounds) (c_check_event : DefOk P w K mg base "check_event" 3 2 F_check_event) (c_check_row : DefOk P w K mg base "check_row" 5 2 F_check_row) (c_check_net : DefOk P w K mg base "check_net" 5 1 F_check_net) {f : Addr} {fd : FuncData} (F : Fun K "accepts_limits" "accepts_limits" s_accepts_limits f fd) (gm : mg "accepts_limits" = some (.ref f)) : DefOk P w K mg base "accepts_limits" 8 5 F_accepts_limits :=
  ⟨f, fd, ["net", "row", "event", "pair", "value"], fn_pure F sc_accepts_limits (by decide) (fun cdv A outer s H E hr => dss_cons (ds_expr (de_callD c_check_net hr (da_cons (de_name 0) (da_nil)))) (dss_cons (ds_expr (de_callD c_check_row hr (da_cons (de_name 0) (da_cons (de_name 1) (da_nil))))) (dss_cons (ds_expr (de_callD c_check_event hr (da_cons (de_name 0) (da_cons (de_name 2) (da_nil))))) (dss_cons (ds_expr (de_callD c_kept_bounds hr (da_cons (de_name 0) (da_nil)))) (dss_cons (ds_if (dt_w (dw_or (dt_not (dt_e (de_callD c_are_limits hr (da_cons (de_name 3) (da_nil))))) (dw_or (dt_not (dt_e (de_isi kit_tuple (de_name 4) (by rfl) T.b_isinstance bt_isinstance (by rfl) T.b_tuple bt_tuple))) (dw_or1 (dt_c (dc_ne hr.units (de_callB call_len opn_len (by rfl) T.b_len bt_len (da_cons (de_name 4) (da_nil))) (de_callB call_len opn_len (by rfl) T.b_len bt_len (da_cons (de_name 1) (da_nil))))))))) (dss_cons (ds_ret (de_bl)) (dss_nil)) (dss_nil)) (dss_cons (ds_set 5 sc_accepts_limits.nd (de_tup (da_cons (de_non) (da_cons (de_non) (da_nil))))) (dss_cons (ds_for [6, 7, 8, 9] PassesOwn.never rfl (di_zip (by rfl) T.b_zip (de_name 1) (de_name 4)) (dg_tup rfl (dgs_cons (dg_name 6 sc_accepts_limits.nd) (dgs_cons (dg_name 7 sc_accepts_limits.nd) (dgs_nil)))) (dss_cons (ds_if (dt_w (dw_or (dt_not (dt_e (de_callD c_is_two hr (da_cons (de_name 7) (da_nil))))) (dw_or (dt_not (dt_e (de_callD c_is_two hr (da_cons (de_ix (de_name 7) (de_int)) (da_nil))))) (dw_or1 (dt_not (dt_e (de_callD c_is_two hr (da_cons (de_ix (de_name 7) (de_int)) (da_nil))))))))) (dss_cons (ds_ret (de_bl)) (dss_nil)) (dss_nil)) (dss_cons (ds_if (dt_not (dt_e (de_callD c_accepts_bound hr (da_cons (de_name 0) (da_cons (de_name 2) (da_cons (de_ix (de_name 6) (de_int)) (da_cons (de_ix (de_ix (de_name 7) (de_int)) (de_int)) (da_cons (de_ix (de_ix (de_name 7) (de_int)) (de_int)) (da_nil))))))))) (dss_cons (ds_ret (de_bl)) (dss_nil)) (dss_nil)) (dss_cons (ds_if (dt_not (dt_e (de_callD c_accepts_bound hr (da_cons (de_name 0) (da_cons (de_ix (de_name 6) (de_int)) (da_cons (de_name 2) (da_cons (de_ix (de_ix (de_name 7) (de_int)) (de_int)) (da_cons (de_ix (de_ix (de_name 7) (de_int)) (de_int)) (da_nil))))))))) (dss_cons (ds_ret (de_bl)) (dss_nil)) (dss_nil)) (dss_cons (ds_asg (de_callD c_marks hr (da_cons (de_ix (de_ix (de_name 7) (de_int)) (de_int)) (da_cons (de_ix (de_ix (de_name 7) (de_int)) (de_int)) (da_cons (de_ix (de_name 6) (de_int)) (da_nil))))) (dg_tup rfl (dgs_cons (dg_name 8 sc_accepts_limits.nd) (dgs_cons (dg_name 9 sc_accepts_limits.nd) (dgs_nil))))) (dss_cons (ds_set 5 sc_accepts_limits.nd (de_callD c_next_limits hr (da_cons (de_name 5) (da_cons (de_name 8) (da_cons (de_name 9) (da_nil)))))) (dss_nil))))))) (dss_cons (ds_ret (de_eq hr.units (de_name 5) (de_name 3))) (dss_nil))))))))), gm, F.kp, (F.binds fun _ _ _ _ _ _ us hl => match us, hl with | [_, _, _, _, _], _ => rfl)⟩

/-! ### _law_next -/
abbrev s_law_next : Stmt := topS 61
theorem sc_law_next : FnScope ["_law_stream_here", "_law_many", "_law_k", "_law_cell", "_law_digit"] ["_law_stream_here", "_law_many"] (defScope s_law_next) := ⟨rfl, rfl, rfl, by decide +kernel, rfl, by decide +kernel, by decide +kernel⟩
def b_law_next : Fs := sCons (sIf (tBl (e2 (gEqv false) (eStIx 0 1) (eC (.int 0)))) (sCons (sSet 2 (eStIx 0 2)) (sCons (sSet 3 (e2 gAdd (eC (.int 7)) (eName 2))) (sCons (sIf (tBl (e2 (gB fun i j => decide (i < j)) (eName 2) (eN gLen (aCons (eStIx 0 0) (aNil))))) (sCons (sSet 3 (eN gAbs (aCons (e2 gIx (eStIx 0 0) (eName 2)) (aNil)))) (sNil)) (sNil)) (sCons (sIf (tBl (e2 (gB fun i j => decide (i < j)) (eName 3) (e2 (gIC cPow fun i j => i ^ j.toNat) (eC (.int 10)) (eC (.int 18))))) (sCons (sSet 3 (e2 (gIC cMod fun i j => i % j) (eN gInt (aCons (e2 gAdd (e2 gAdd (e2 (gIC cMul fun i j => i * j) (eName 3) (eC (.int 48271))) (e2 (gIC cMul fun i j => i * j) (eName 2) (eC (.int 69621)))) (eC (.int 11))) (aNil))) (eC (.int 2147483647)))) (sCons (sSet 3 (e2 gAdd (e2 (gIC cMul fun i j => i * j) (e2 (gIC cMod fun i j => i % j) (eN gInt (aCons (e2 gAdd (e2 (gIC cMul fun i j => i * j) (eName 3) (eC (.int 16807))) (eC (.int 13))) (aNil))) (eC (.int 2147483647))) (eC (.int 65537))) (eName 3))) (sNil))) (sNil)) (sCons (sStPut 0 1 (eName 3)) (sCons (sStPut 0 2 (e2 gAdd (eName 2) (eC (.int 1)))) (sNil))))))) (sNil)) (sCons (sSet 4 (e2 (gIC cMod fun i j => i % j) (eN gInt (aCons (eStIx 0 1) (aNil))) (eName 1))) (sCons (sStPut 0 1 (e2 (gIC cDiv fun i j => i / j) (eStIx 0 1) (eName 1))) (sCons (sRet (eName 4)) (sNil))))
def F_law_next : Strm → List D → Option (D × Strm) := runS 4 1 b_law_next
theorem k_law_next {P : Program} {w : World} {K : PySem.W.Frag} {mg : Str → Option Value} {base : Heap} (T : Gs K mg) {f : Addr} {fd : FuncData} (F : Fun K "_law_next" "_law_next" s_law_next f fd) (gm : mg "_law_next" = some (.ref f)) : DefOkS P w K mg base "_law_next" 1 1 F_law_next :=
  ⟨f, fd, ["_law_stream_here", "_law_many"], fn_stream (n := 1) F sc_law_next rfl (by decide) (fun a cdv A outer s H E hr => dss_cons (ds_if (dt_c (dc_eq hr.units (de_stIx 0) (de_int))) (dss_cons (ds_set 2 sc_law_next.nd (de_stIx 0)) (dss_cons (ds_set 3 sc_law_next.nd (de_add (de_int) (de_name 2))) (dss_cons (ds_if (dt_c (dc_lt (de_name 2) (de_callB call_len opn_len (by rfl) T.b_len bt_len (da_cons (de_stIx 0) (da_nil))))) (dss_cons (ds_set 3 sc_law_next.nd (de_callB call_abs opn_abs (by rfl) T.b_abs bt_abs (da_cons (de_ix (de_stIx 0) (de_name 2)) (da_nil)))) (dss_nil)) (dss_nil)) (dss_cons (ds_if (dt_c (dc_lt (de_name 3) (de_pow (de_int) (de_int)))) (dss_cons (ds_set 3 sc_law_next.nd (de_mod (de_callTy call_int1 opn_int (by rfl) T.b_int bt_int (da_cons (de_add (de_add (de_mul (de_name 3) (de_int)) (de_mul (de_name 2) (de_int))) (de_int)) (da_nil))) (de_int))) (dss_cons (ds_set 3 sc_law_next.nd (de_add (de_mul (de_mod (de_callTy call_int1 opn_int (by rfl) T.b_int bt_int (da_cons (de_add (de_mul (de_name 3) (de_int)) (de_int)) (da_nil))) (de_int)) (de_int)) (de_name 3))) (dss_nil))) (dss_nil)) (dss_cons (ds_stPut 0 (de_name 3)) (dss_cons (ds_stPut 0 (de_add (de_name 2) (de_int))) (dss_nil))))))) (dss_nil)) (dss_cons (ds_set 4 sc_law_next.nd (de_mod (de_callTy call_int1 opn_int (by rfl) T.b_int bt_int (da_cons (de_stIx 0) (da_nil))) (de_name 1))) (dss_cons (ds_stPut 0 (de_fdiv (de_stIx 0) (de_name 1))) (dss_cons (ds_ret (de_name 4)) (dss_nil))))), gm, F.kp, (F.binds fun _ _ _ _ _ _ us hl => match us, hl with | [_, _], _ => rfl)⟩

/-! ### _law_is_integer -/
abbrev s_law_is_integer : Stmt := topS 62
theorem sc_law_is_integer : FnScope ["_law_actual"] ["_law_actual"] (defScope s_law_is_integer) := ⟨rfl, rfl, rfl, by decide +kernel, rfl, by decide +kernel, by decide +kernel⟩
def b_law_is_integer : Fs := sCons (sRet (eAnd (e1 (gIsi isIntD) (eName 0)) (e1 gNot (e1 (gIsi isBlD) (eName 0))))) (sNil)
def F_law_is_integer : List D → Option D := runD 1 1 b_law_is_integer
theorem k_law_is_integer {P : Program} {w : World} {K : PySem.W.Frag} {mg : Str → Option Value} {base : Heap} (T : Gs K mg) {f : Addr} {fd : FuncData} (F : Fun K "_law_is_integer" "_law_is_integer" s_law_is_integer f fd) (gm : mg "_law_is_integer" = some (.ref f)) : DefOk P w K mg base "_law_is_integer" 1 1 F_law_is_integer :=
  ⟨f, fd, ["_law_actual"], fn_pure F sc_law_is_integer (by decide) (fun cdv A outer s H E hr => dss_cons (ds_ret (de_and (de_isi kit_int (de_name 0) (by rfl) T.b_isinstance bt_isinstance (by rfl) T.b_int bt_int) (de_one (de_not (de_isi kit_bool (de_name 0) (by rfl) T.b_isinstance bt_isinstance (by rfl) T.b_bool bt_bool))))) (dss_nil)), gm, F.kp, (F.binds fun _ _ _ _ _ _ us hl => match us, hl with | [_], _ => rfl)⟩

/-! ### _law_equal -/
abbrev s_law_equal : Stmt := topS 63
theorem sc_law_equal : FnScope ["_law_actual", "_law_due", "_law_at"] ["_law_actual", "_law_due"] (defScope s_law_equal) := ⟨rfl, rfl, rfl, by decide +kernel, rfl, by decide +kernel, by decide +kernel⟩
def b_law_equal (g : List D → Option D) : Fs := sCons (sIf (tBl (e1 gIsN (eName 1))) (sCons (sRet (e1 gIsN (eName 0))) (sNil)) (sNil)) (sCons (sIf (tE (e1 (gIsi isBlD) (eName 1))) (sCons (sRet (eAnd (e1 (gIsi isBlD) (eName 0)) (e2 (gEqv false) (eName 0) (eName 1)))) (sNil)) (sNil)) (sCons (sIf (tE (e1 (gIsi isIntD) (eName 1))) (sCons (sRet (eAnd (eCall 1 F_law_is_integer (aCons (eName 0) (aNil))) (e2 (gEqv false) (eName 0) (eName 1)))) (sNil)) (sNil)) (sCons (sIf (tE (e1 (gIsi isStrD) (eName 1))) (sCons (sRet (eAnd (e1 (gIsi isStrD) (eName 0)) (e2 (gEqv false) (eName 0) (eName 1)))) (sNil)) (sNil)) (sCons (sIf (tAnd' (tE (e1 (gIsi isTupD) (eName 1))) (tNot' (tE (e1 (gIsi isTupD) (eName 0))))) (sCons (sRet (eC (.bl false))) (sNil)) (sNil)) (sCons (sIf (tAnd' (tE (e1 (gIsi isLstD) (eName 1))) (tNot' (tE (e1 (gIsi isLstD) (eName 0))))) (sCons (sRet (eC (.bl false))) (sNil)) (sNil)) (sCons (sIf (tBl (e2 (gEqv true) (eN gLen (aCons (eName 0) (aNil))) (eN gLen (aCons (eName 1) (aNil))))) (sCons (sRet (eC (.bl false))) (sNil)) (sNil)) (sCons (sRet (eN gAll (aCons (eComp [2] (iRange (eN gLen (aCons (eName 1) (aNil)))) (gSet 2) (tYes') (eCall 2 g (aCons (e2 gIx (eName 0) (eName 2)) (aCons (e2 gIx (eName 1) (eName 2)) (aNil))))) (aNil)))) (sNil))))))))
def F_law_equalN : Nat → List D → Option D
  | 0 => fun _ => none
  | m + 1 => runD 3 2 (b_law_equal (F_law_equalN m))
theorem k_law_equal {P : Program} {w : World} {K : PySem.W.Frag} {mg : Str → Option Value} {base : Heap} (T : Gs K mg) (c_law_is_integer : DefOk P w K mg base "_law_is_integer" 1 1 F_law_is_integer) {f : Addr} {fd : FuncData} (F : Fun K "_law_equal" "_law_equal" s_law_equal f fd) (gm : mg "_law_equal" = some (.ref f)) {kk k : Nat} {g : List D → Option D} (c_law_equal : DefOk P w K mg base "_law_equal" kk 2 g) (hk : kk ≤ k) (h1 : 1 ≤ k) :
    DefOk P w K mg base "_law_equal" (k + 1) 2 (runD 3 2 (b_law_equal g)) :=
  ⟨f, fd, ["_law_actual", "_law_due"], fn_pure F sc_law_equal (by decide) (fun cdv A outer s H E hr => dss_cons (ds_if (dt_c (dc_isN (de_name 1))) (dss_cons (ds_ret (de_isN (de_name 0))) (dss_nil)) (dss_nil)) (dss_cons (ds_if (dt_e (de_isi kit_bool (de_name 1) (by rfl) T.b_isinstance bt_isinstance (by rfl) T.b_bool bt_bool)) (dss_cons (ds_ret (de_and (de_isi kit_bool (de_name 0) (by rfl) T.b_isinstance bt_isinstance (by rfl) T.b_bool bt_bool) (de_one (de_eq hr.units (de_name 0) (de_name 1))))) (dss_nil)) (dss_nil)) (dss_cons (ds_if (dt_e (de_isi kit_int (de_name 1) (by rfl) T.b_isinstance bt_isinstance (by rfl) T.b_int bt_int)) (dss_cons (ds_ret (de_and (de_callD (hj := h1) c_law_is_integer hr (da_cons (de_name 0) (da_nil))) (de_one (de_eq hr.units (de_name 0) (de_name 1))))) (dss_nil)) (dss_nil)) (dss_cons (ds_if (dt_e (de_isi kit_str (de_name 1) (by rfl) T.b_isinstance bt_isinstance (by rfl) T.b_str bt_str)) (dss_cons (ds_ret (de_and (de_isi kit_str (de_name 0) (by rfl) T.b_isinstance bt_isinstance (by rfl) T.b_str bt_str) (de_one (de_eq hr.units (de_name 0) (de_name 1))))) (dss_nil)) (dss_nil)) (dss_cons (ds_if (dt_w (dw_and (dt_e (de_isi kit_tuple (de_name 1) (by rfl) T.b_isinstance bt_isinstance (by rfl) T.b_tuple bt_tuple)) (dw_and1 (dt_not (dt_e (de_isi kit_tuple (de_name 0) (by rfl) T.b_isinstance bt_isinstance (by rfl) T.b_tuple bt_tuple)))))) (dss_cons (ds_ret (de_bl)) (dss_nil)) (dss_nil)) (dss_cons (ds_if (dt_w (dw_and (dt_e (de_isi kit_list (de_name 1) (by rfl) T.b_isinstance bt_isinstance (by rfl) T.b_list bt_list)) (dw_and1 (dt_not (dt_e (de_isi kit_list (de_name 0) (by rfl) T.b_isinstance bt_isinstance (by rfl) T.b_list bt_list)))))) (dss_cons (ds_ret (de_bl)) (dss_nil)) (dss_nil)) (dss_cons (ds_if (dt_c (dc_ne hr.units (de_callB call_len opn_len (by rfl) T.b_len bt_len (da_cons (de_name 0) (da_nil))) (de_callB call_len opn_len (by rfl) T.b_len bt_len (da_cons (de_name 1) (da_nil))))) (dss_cons (ds_ret (de_bl)) (dss_nil)) (dss_nil)) (dss_cons (ds_ret (de_callB (cr_all rfl) opn_all (by rfl) T.b_all bt_all (da_cons (de_comp (own := [("_law_at", 2)]) rfl sc_law_equal.nd (blkOk_by (by kernel_rfl)) (di_range (by rfl) T.b_range (de_callB call_len opn_len (by rfl) T.b_len bt_len (da_cons (de_name 1) (da_nil)))) (fun _ _ _ _ _ => dgo_name 2 sc_law_equal.nd (by decide)) (fun _ _ _ _ _ => dts_nil) (fun _ _ _ _ _ => de_callD c_law_equal hr (da_cons (de_ix (de_name 0) (de_name 2)) (da_cons (de_ix (de_name 1) (de_name 2)) (da_nil))) (hj := hk))) (da_nil)))) (dss_nil))))))))), gm, F.kp, (F.binds fun _ _ _ _ _ _ us hl => match us, hl with | [_, _], _ => rfl)⟩
theorem kN_law_equal {P : Program} {w : World} {K : PySem.W.Frag} {mg : Str → Option Value} {base : Heap} (T : Gs K mg) (c_law_is_integer : DefOk P w K mg base "_law_is_integer" 1 1 F_law_is_integer) {f : Addr} {fd : FuncData} (F : Fun K "_law_equal" "_law_equal" s_law_equal f fd) (gm : mg "_law_equal" = some (.ref f)) : ∀ m : Nat, DefOk P w K mg base "_law_equal" (m + 1) 2 (F_law_equalN m)
  | 0 => ⟨f, fd, ["_law_actual", "_law_due"], fn_void rfl, gm, F.kp, (F.binds fun _ _ _ _ _ _ us hl => match us, hl with | [_, _], _ => rfl)⟩
  | m + 1 => k_law_equal T c_law_is_integer F gm (kN_law_equal T c_law_is_integer F gm m) (Nat.le_refl _) (Nat.le_add_left 1 m)
def F_law_equal : List D → Option D := F_law_equalN 2
theorem k_law_equal2 {P : Program} {w : World} {K : PySem.W.Frag} {mg : Str → Option Value} {base : Heap} (T : Gs K mg) (c_law_is_integer : DefOk P w K mg base "_law_is_integer" 1 1 F_law_is_integer) {f : Addr} {fd : FuncData} (F : Fun K "_law_equal" "_law_equal" s_law_equal f fd) (gm : mg "_law_equal" = some (.ref f)) : DefOk P w K mg base "_law_equal" 3 2 F_law_equal := kN_law_equal T c_law_is_integer F gm 2

/-! ### _law_gap -/
abbrev s_law_gap : Stmt := topS 64
theorem sc_law_gap : FnScope ["_law_stream_here", "_law_start", "_law_end", "_law_first", "_law_second", "_law_gaps", "_law_low", "_law_high", "_law_pick"] ["_law_stream_here", "_law_start", "_law_end", "_law_first", "_law_second"] (defScope s_law_gap) := ⟨rfl, rfl, rfl, by decide +kernel, rfl, by decide +kernel, by decide +kernel⟩
def b_law_gap : Fs := sCons (sSet 5 (eN gLst (aCons (e2 (gI fun i j => i - j) (e2 gIx (eName 3) (eName 2)) (e2 gIx (eName 3) (eName 1))) (aCons (e2 (gI fun i j => i - j) (e2 gIx (eName 4) (eName 2)) (e2 gIx (eName 4) (eName 1))) (aNil))))) (sCons (sSet 6 (e2 (gI fun i j => i - j) (eN gMinL (aCons (eName 5) (aNil))) (e2 gIx (eN gLst (aCons (eC (.int 0)) (aCons (eC (.int 0)) (aCons (eC (.int 1)) (aCons (eC (.int 3)) (aNil)))))) (eCallS 0 1 F_law_next (aCons (eC (.int 4)) (aNil)))))) (sCons (sSet 7 (e2 gAdd (eN gMaxL (aCons (eName 5) (aNil))) (e2 gIx (eN gLst (aCons (eC (.int 0)) (aCons (eC (.int 0)) (aCons (eC (.int 1)) (aCons (eC (.int 3)) (aNil)))))) (eCallS 0 1 F_law_next (aCons (eC (.int 4)) (aNil)))))) (sCons (sSet 8 (eCallS 0 1 F_law_next (aCons (eC (.int 4)) (aNil)))) (sCons (sIf (tBl (e2 (gEqv false) (eName 8) (eC (.int 0)))) (sCons (sRet (eN gTup (aCons (eName 1) (aCons (eName 2) (aCons (eName 6) (aCons (eC .non) (aNil))))))) (sNil)) (sNil)) (sCons (sIf (tBl (e2 (gEqv false) (eName 8) (eC (.int 1)))) (sCons (sRet (eN gTup (aCons (eName 1) (aCons (eName 2) (aCons (eC .non) (aCons (eName 7) (aNil))))))) (sNil)) (sNil)) (sCons (sRet (eN gTup (aCons (eName 1) (aCons (eName 2) (aCons (eName 6) (aCons (eName 7) (aNil))))))) (sNil)))))))
def F_law_gap : Strm → List D → Option (D × Strm) := runS 8 4 b_law_gap
theorem k_law_gap {P : Program} {w : World} {K : PySem.W.Frag} {mg : Str → Option Value} {base : Heap} (T : Gs K mg) (c_law_next : DefOkS P w K mg base "_law_next" 1 1 F_law_next) {f : Addr} {fd : FuncData} (F : Fun K "_law_gap" "_law_gap" s_law_gap f fd) (gm : mg "_law_gap" = some (.ref f)) : DefOkS P w K mg base "_law_gap" 2 4 F_law_gap :=
  ⟨f, fd, ["_law_stream_here", "_law_start", "_law_end", "_law_first", "_law_second"], fn_stream (n := 4) F sc_law_gap rfl (by decide) (fun a cdv A outer s H E hr => dss_cons (ds_set 5 sc_law_gap.nd (de_lst (da_cons (de_sub (de_ix (de_name 3) (de_name 2)) (de_ix (de_name 3) (de_name 1))) (da_cons (de_sub (de_ix (de_name 4) (de_name 2)) (de_ix (de_name 4) (de_name 1))) (da_nil))))) (dss_cons (ds_set 6 sc_law_gap.nd (de_sub (de_callB (cr_min rfl) opn_minL (by rfl) T.b_min bt_min (da_cons (de_name 5) (da_nil))) (de_ix (de_lst (da_cons (de_int) (da_cons (de_int) (da_cons (de_int) (da_cons (de_int) (da_nil)))))) (de_callDS 0 c_law_next hr (da_cons (de_int) (da_nil)))))) (dss_cons (ds_set 7 sc_law_gap.nd (de_add (de_callB (cr_max rfl) opn_maxL (by rfl) T.b_max bt_max (da_cons (de_name 5) (da_nil))) (de_ix (de_lst (da_cons (de_int) (da_cons (de_int) (da_cons (de_int) (da_cons (de_int) (da_nil)))))) (de_callDS 0 c_law_next hr (da_cons (de_int) (da_nil)))))) (dss_cons (ds_set 8 sc_law_gap.nd (de_callDS 0 c_law_next hr (da_cons (de_int) (da_nil)))) (dss_cons (ds_if (dt_c (dc_eq hr.units (de_name 8) (de_int))) (dss_cons (ds_ret (de_tup (da_cons (de_name 1) (da_cons (de_name 2) (da_cons (de_name 6) (da_cons (de_non) (da_nil))))))) (dss_nil)) (dss_nil)) (dss_cons (ds_if (dt_c (dc_eq hr.units (de_name 8) (de_int))) (dss_cons (ds_ret (de_tup (da_cons (de_name 1) (da_cons (de_name 2) (da_cons (de_non) (da_cons (de_name 7) (da_nil))))))) (dss_nil)) (dss_nil)) (dss_cons (ds_ret (de_tup (da_cons (de_name 1) (da_cons (de_name 2) (da_cons (de_name 6) (da_cons (de_name 7) (da_nil))))))) (dss_nil)))))))), gm, F.kp, (F.binds fun _ _ _ _ _ _ us hl => match us, hl with | [_, _, _, _, _], _ => rfl)⟩

/-! ### _law_net -/
abbrev s_law_net : Stmt := topS 65
theorem sc_law_net : FnScope ["_law_stream_here", "_law_least", "_law_most", "_law_many", "_law_wide", "_law_size", "_law_first", "_law_event", "_law_second", "_law_time", "_law_rules", "_law_turn", "_law_start", "_law_end"] ["_law_stream_here", "_law_least", "_law_most", "_law_many", "_law_wide"] (defScope s_law_net) := ⟨rfl, rfl, rfl, by decide +kernel, rfl, by decide +kernel, by decide +kernel⟩
def b_law_net : Fs := sCons (sSet 5 (e2 gAdd (eName 1) (eCallS 0 1 F_law_next (aCons (e2 gAdd (e2 (gI fun i j => i - j) (eName 2) (eName 1)) (eC (.int 1))) (aNil))))) (sCons (sSet 6 (eN gTupOf (aCons (eComp [7] (iRange (eName 5)) (gSet 7) (tYes') (e2 (gI fun i j => i - j) (eCallS 0 1 F_law_next (aCons (e2 gAdd (e2 (gIC cMul fun i j => i * j) (eC (.int 2)) (eName 4)) (eC (.int 1))) (aNil))) (eName 4))) (aNil)))) (sCons (sSet 8 (eN gTupOf (aCons (eComp [9] (iSeq (eName 6)) (gSet 9) (tYes') (e2 gAdd (eName 9) (e2 (gIC cMul fun i j => i * j) (eCallS 0 1 F_law_next (aCons (e2 gAdd (eName 4) (eC (.int 1))) (aNil))) (e2 (gI fun i j => i - j) (eCallS 0 1 F_law_next (aCons (eC (.int 3)) (aNil))) (eC (.int 1)))))) (aNil)))) (sCons (sNewL 10) (sCons (sFor [11, 12, 13] (iRange (eCallS 0 1 F_law_next (aCons (e2 gAdd (eName 3) (eC (.int 1))) (aNil)))) (gSet 11) (sCons (sIf (tBl (e2 (gB fun i j => decide (j < i)) (eName 5) (eC (.int 1)))) (sCons (sSet 12 (eCallS 0 1 F_law_next (aCons (eName 5) (aNil)))) (sCons (sSet 13 (eCallS 0 1 F_law_next (aCons (e2 (gI fun i j => i - j) (eName 5) (eC (.int 1))) (aNil)))) (sCons (sApp 10 (eCallS 0 4 F_law_gap (aCons (eName 12) (aCons (e2 gAdd (eName 13) (eN gInt (aCons (e2 (gB fun i j => decide (j ≤ i)) (eName 13) (eName 12)) (aNil)))) (aCons (eName 6) (aCons (eName 8) (aNil))))))) (sNil)))) (sNil)) (sNil))) (sCons (sRet (eN gTup (aCons (eN gTup (aCons (eName 5) (aCons (eN gTupOf (aCons (eName 10) (aNil))) (aNil)))) (aCons (eName 6) (aCons (eName 8) (aNil)))))) (sNil))))))
def F_law_net : Strm → List D → Option (D × Strm) := runS 13 4 b_law_net
theorem k_law_net {P : Program} {w : World} {K : PySem.W.Frag} {mg : Str → Option Value} {base : Heap} (T : Gs K mg) (c_law_next : DefOkS P w K mg base "_law_next" 1 1 F_law_next) (c_law_gap : DefOkS P w K mg base "_law_gap" 2 4 F_law_gap) {f : Addr} {fd : FuncData} (F : Fun K "_law_net" "_law_net" s_law_net f fd) (gm : mg "_law_net" = some (.ref f)) : DefOkS P w K mg base "_law_net" 3 4 F_law_net :=
  ⟨f, fd, ["_law_stream_here", "_law_least", "_law_most", "_law_many", "_law_wide"], fn_stream (n := 4) F sc_law_net rfl (by decide) (fun a cdv A outer s H E hr => dss_cons (ds_set 5 sc_law_net.nd (de_add (de_name 1) (de_callDS 0 c_law_next hr (da_cons (de_add (de_sub (de_name 2) (de_name 1)) (de_int)) (da_nil))))) (dss_cons (ds_set 6 sc_law_net.nd (de_callTy call_tuple_of opn_tupOf (by rfl) T.b_tuple bt_tuple (da_cons (de_comp (own := [("_law_event", 7)]) rfl sc_law_net.nd (blkOk_by (by kernel_rfl)) (di_range (by rfl) T.b_range (de_name 5)) (fun _ _ _ _ _ => dgo_name 7 sc_law_net.nd (by decide)) (fun _ _ _ _ _ => dts_nil) (fun _ _ _ _ _ => de_sub (de_callDS 0 c_law_next hr (da_cons (de_add (de_mul (de_int) (de_name 4)) (de_int)) (da_nil))) (de_name 4))) (da_nil)))) (dss_cons (ds_set 8 sc_law_net.nd (de_callTy call_tuple_of opn_tupOf (by rfl) T.b_tuple bt_tuple (da_cons (de_comp (own := [("_law_time", 9)]) rfl sc_law_net.nd (blkOk_by (by kernel_rfl)) (di_seq (de_name 6)) (fun _ _ _ _ _ => dgo_name 9 sc_law_net.nd (by decide)) (fun _ _ _ _ _ => dts_nil) (fun _ _ _ _ _ => de_add (de_name 9) (de_mul (de_callDS 0 c_law_next hr (da_cons (de_add (de_name 4) (de_int)) (da_nil))) (de_sub (de_callDS 0 c_law_next hr (da_cons (de_int) (da_nil))) (de_int))))) (da_nil)))) (dss_cons (ds_newL 10 sc_law_net.nd) (dss_cons (ds_for [11, 12, 13] PassesOwn.never rfl (di_range (by rfl) T.b_range (de_callDS 0 c_law_next hr (da_cons (de_add (de_name 3) (de_int)) (da_nil)))) (dg_name 11 sc_law_net.nd) (dss_cons (ds_if (dt_c (dc_gt (de_name 5) (de_int))) (dss_cons (ds_set 12 sc_law_net.nd (de_callDS 0 c_law_next hr (da_cons (de_name 5) (da_nil)))) (dss_cons (ds_set 13 sc_law_net.nd (de_callDS 0 c_law_next hr (da_cons (de_sub (de_name 5) (de_int)) (da_nil)))) (dss_cons (ds_app 10 (de_callDS 0 c_law_gap hr (da_cons (de_name 12) (da_cons (de_add (de_name 13) (de_callTy call_int1 opn_int (by rfl) T.b_int bt_int (da_cons (de_ge (de_name 13) (de_name 12)) (da_nil)))) (da_cons (de_name 6) (da_cons (de_name 8) (da_nil))))))) (dss_nil)))) (dss_nil)) (dss_nil))) (dss_cons (ds_ret (de_tup (da_cons (de_tup (da_cons (de_name 5) (da_cons (de_callTy call_tuple_of opn_tupOf (by rfl) T.b_tuple bt_tuple (da_cons (de_name 10) (da_nil))) (da_nil)))) (da_cons (de_name 6) (da_cons (de_name 8) (da_nil)))))) (dss_nil))))))), gm, F.kp, (F.binds fun _ _ _ _ _ _ us hl => match us, hl with | [_, _, _, _, _], _ => rfl)⟩

/-! ### _law_edges -/
abbrev s_law_edges : Stmt := topS 66
theorem sc_law_edges : FnScope ["_law_net_here", "_law_found", "_law_at", "_law_start", "_law_end", "_law_low", "_law_high"] ["_law_net_here"] (defScope s_law_edges) := ⟨rfl, rfl, rfl, by decide +kernel, rfl, by decide +kernel, by decide +kernel⟩
def b_law_edges : Fs := sCons (sNewL 1) (sCons (sFor [2, 3, 4, 5, 6] (iRange (eN gLen (aCons (e2 gIx (eName 0) (eC (.int 1))) (aNil)))) (gSet 2) (sCons (sAsg (e2 gIx (e2 gIx (eName 0) (eC (.int 1))) (eName 2)) (gTupT 4 (gsCons (gSet 3) (gsCons (gSet 4) (gsCons (gSet 5) (gsCons (gSet 6) (gsNil))))))) (sCons (sIf (tBl (e1 gNotN (eName 6))) (sCons (sApp 1 (eN gTup (aCons (eN gTup (aCons (eName 2) (aCons (eC (.str "high")) (aNil)))) (aCons (eName 3) (aCons (eName 4) (aCons (eName 6) (aNil))))))) (sNil)) (sNil)) (sCons (sIf (tBl (e1 gNotN (eName 5))) (sCons (sApp 1 (eN gTup (aCons (eN gTup (aCons (eName 2) (aCons (eC (.str "low")) (aNil)))) (aCons (eName 4) (aCons (eName 3) (aCons (e2 (gI fun i j => i - j) (eC (.int 0)) (eName 5)) (aNil))))))) (sNil)) (sNil)) (sNil))))) (sCons (sRet (eName 1)) (sNil)))
def F_law_edges : List D → Option D := runD 7 1 b_law_edges
theorem k_law_edges {P : Program} {w : World} {K : PySem.W.Frag} {mg : Str → Option Value} {base : Heap} (T : Gs K mg) {f : Addr} {fd : FuncData} (F : Fun K "_law_edges" "_law_edges" s_law_edges f fd) (gm : mg "_law_edges" = some (.ref f)) : DefOk P w K mg base "_law_edges" 1 1 F_law_edges :=
  ⟨f, fd, ["_law_net_here"], fn_pure F sc_law_edges (by decide) (fun cdv A outer s H E hr => dss_cons (ds_newL 1 sc_law_edges.nd) (dss_cons (ds_for [2, 3, 4, 5, 6] PassesOwn.never rfl (di_range (by rfl) T.b_range (de_callB call_len opn_len (by rfl) T.b_len bt_len (da_cons (de_ix (de_name 0) (de_int)) (da_nil)))) (dg_name 2 sc_law_edges.nd) (dss_cons (ds_asg (de_ix (de_ix (de_name 0) (de_int)) (de_name 2)) (dg_tup rfl (dgs_cons (dg_name 3 sc_law_edges.nd) (dgs_cons (dg_name 4 sc_law_edges.nd) (dgs_cons (dg_name 5 sc_law_edges.nd) (dgs_cons (dg_name 6 sc_law_edges.nd) (dgs_nil))))))) (dss_cons (ds_if (dt_c (dc_notN (de_name 6))) (dss_cons (ds_app 1 (de_tup (da_cons (de_tup (da_cons (de_name 2) (da_cons (de_str) (da_nil)))) (da_cons (de_name 3) (da_cons (de_name 4) (da_cons (de_name 6) (da_nil))))))) (dss_nil)) (dss_nil)) (dss_cons (ds_if (dt_c (dc_notN (de_name 5))) (dss_cons (ds_app 1 (de_tup (da_cons (de_tup (da_cons (de_name 2) (da_cons (de_str) (da_nil)))) (da_cons (de_name 4) (da_cons (de_name 3) (da_cons (de_sub (de_int) (de_name 5)) (da_nil))))))) (dss_nil)) (dss_nil)) (dss_nil))))) (dss_cons (ds_ret (de_name 1)) (dss_nil)))), gm, F.kp, (F.binds fun _ _ _ _ _ _ us hl => match us, hl with | [_], _ => rfl)⟩

/-! ### _law_bounds -/
abbrev s_law_bounds : Stmt := topS 67
theorem sc_law_bounds : FnScope ["_law_net_here", "_law_bounds_here", "_law_event", "_law_turn", "_law_edge", "_law_start", "_law_end", "_law_weight", "_law_length"] ["_law_net_here"] (defScope s_law_bounds) := ⟨rfl, rfl, rfl, by decide +kernel, rfl, by decide +kernel, by decide +kernel⟩
def b_law_bounds : Fs := sCons (sNewD 1) (sCons (sFor [2] (iRange (e2 gIx (eName 0) (eC (.int 0)))) (gSet 2) (sCons (sPut 1 (eN gTup (aCons (eName 2) (aCons (eName 2) (aNil)))) (eC (.int 0))) (sNil))) (sCons (sFor [2, 3, 4, 5, 6, 7, 8] (iRange (e2 gIx (eName 0) (eC (.int 0)))) (gSet 3) (sCons (sFor [2, 4, 5, 6, 7, 8] (iSeq (eCall 1 F_law_edges (aCons (eName 0) (aNil)))) (gTupT 4 (gsCons (gSet 4) (gsCons (gSet 5) (gsCons (gSet 6) (gsCons (gSet 7) (gsNil)))))) (sCons (sFor [2, 8] (iRange (e2 gIx (eName 0) (eC (.int 0)))) (gSet 2) (sCons (sIf (tBl (eDinO false 1 (eN gTup (aCons (eName 2) (aCons (eName 5) (aNil)))))) (sCons (sSet 8 (e2 gAdd (eDgetO 1 (eN gTup (aCons (eName 2) (aCons (eName 5) (aNil))))) (eName 7))) (sCons (sIf (tOr' (tBl (eDinO true 1 (eN gTup (aCons (eName 2) (aCons (eName 6) (aNil)))))) (tBl (e2 (gB fun i j => decide (i < j)) (eName 8) (eDgetO 1 (eN gTup (aCons (eName 2) (aCons (eName 6) (aNil)))))))) (sCons (sPut 1 (eN gTup (aCons (eName 2) (aCons (eName 6) (aNil)))) (eName 8)) (sNil)) (sNil)) (sNil))) (sNil)) (sNil))) (sNil))) (sNil))) (sCons (sRet (eName 1)) (sNil))))
def F_law_bounds : List D → Option D := runD 9 1 b_law_bounds
theorem k_law_bounds {P : Program} {w : World} {K : PySem.W.Frag} {mg : Str → Option Value} {base : Heap} (T : Gs K mg) (c_law_edges : DefOk P w K mg base "_law_edges" 1 1 F_law_edges) {f : Addr} {fd : FuncData} (F : Fun K "_law_bounds" "_law_bounds" s_law_bounds f fd) (gm : mg "_law_bounds" = some (.ref f)) : DefOk P w K mg base "_law_bounds" 2 1 F_law_bounds :=
  ⟨f, fd, ["_law_net_here"], fn_pure F sc_law_bounds (by decide) (fun cdv A outer s H E hr => dss_cons (ds_newD 1 sc_law_bounds.nd) (dss_cons (ds_for [2] PassesOwn.never rfl (di_range (by rfl) T.b_range (de_ix (de_name 0) (de_int))) (dg_name 2 sc_law_bounds.nd) (dss_cons (ds_put 1 (hu_of hr) (de_tup (da_cons (de_name 2) (da_cons (de_name 2) (da_nil)))) (de_int)) (dss_nil))) (dss_cons (ds_for [2, 3, 4, 5, 6, 7, 8] PassesOwn.never rfl (di_range (by rfl) T.b_range (de_ix (de_name 0) (de_int))) (dg_name 3 sc_law_bounds.nd) (dss_cons (ds_for [2, 4, 5, 6, 7, 8] PassesOwn.never rfl (di_seq (de_callD c_law_edges hr (da_cons (de_name 0) (da_nil)))) (dg_tup rfl (dgs_cons (dg_name 4 sc_law_bounds.nd) (dgs_cons (dg_name 5 sc_law_bounds.nd) (dgs_cons (dg_name 6 sc_law_bounds.nd) (dgs_cons (dg_name 7 sc_law_bounds.nd) (dgs_nil)))))) (dss_cons (ds_for [2, 8] PassesOwn.never rfl (di_range (by rfl) T.b_range (de_ix (de_name 0) (de_int))) (dg_name 2 sc_law_bounds.nd) (dss_cons (ds_if (dt_c (dc_dinO 1 (hu_of hr) (de_tup (da_cons (de_name 2) (da_cons (de_name 5) (da_nil)))))) (dss_cons (ds_set 8 sc_law_bounds.nd (de_add (de_dgetO 1 (hu_of hr) (de_tup (da_cons (de_name 2) (da_cons (de_name 5) (da_nil))))) (de_name 7))) (dss_cons (ds_if (dt_w (dw_or (dt_c (dc_dnotinO 1 (hu_of hr) (de_tup (da_cons (de_name 2) (da_cons (de_name 6) (da_nil)))))) (dw_or1 (dt_c (dc_lt (de_name 8) (de_dgetO 1 (hu_of hr) (de_tup (da_cons (de_name 2) (da_cons (de_name 6) (da_nil)))))))))) (dss_cons (ds_put 1 (hu_of hr) (de_tup (da_cons (de_name 2) (da_cons (de_name 6) (da_nil)))) (de_name 8)) (dss_nil)) (dss_nil)) (dss_nil))) (dss_nil)) (dss_nil))) (dss_nil))) (dss_nil))) (dss_cons (ds_ret (de_name 1)) (dss_nil))))), gm, F.kp, (F.binds fun _ _ _ _ _ _ us hl => match us, hl with | [_], _ => rfl)⟩
end Kx
set_option Elab.async false
set_option linter.all false
set_option maxRecDepth 100000
set_option maxHeartbeats 4000000
namespace Kx
open PySem PySem.Spec PyProof.Rows L2
/-! ### _law_keeps -/
abbrev s_law_keeps : Stmt := topS 68
theorem sc_law_keeps : FnScope ["_law_net_here", "_law_times", "_law_edge", "_law_start", "_law_end", "_law_weight"] ["_law_net_here", "_law_times"] (defScope s_law_keeps) := ⟨rfl, rfl, rfl, by decide +kernel, rfl, by decide +kernel, by decide +kernel⟩
def b_law_keeps : Fs := sCons (sRet (eN gAll (aCons (eComp [2, 3, 4, 5] (iSeq (eCall 1 F_law_edges (aCons (eName 0) (aNil)))) (gTupT 4 (gsCons (gSet 2) (gsCons (gSet 3) (gsCons (gSet 4) (gsCons (gSet 5) (gsNil)))))) (tYes') (e2 (gB fun i j => decide (i ≤ j)) (e2 (gI fun i j => i - j) (e2 gIx (eName 1) (eName 4)) (e2 gIx (eName 1) (eName 3))) (eName 5))) (aNil)))) (sNil)
def F_law_keeps : List D → Option D := runD 6 2 b_law_keeps
theorem k_law_keeps {P : Program} {w : World} {K : PySem.W.Frag} {mg : Str → Option Value} {base : Heap} (T : Gs K mg) (c_law_edges : DefOk P w K mg base "_law_edges" 1 1 F_law_edges) {f : Addr} {fd : FuncData} (F : Fun K "_law_keeps" "_law_keeps" s_law_keeps f fd) (gm : mg "_law_keeps" = some (.ref f)) : DefOk P w K mg base "_law_keeps" 2 2 F_law_keeps :=
  ⟨f, fd, ["_law_net_here", "_law_times"], fn_pure F sc_law_keeps (by decide) (fun cdv A outer s H E hr => dss_cons (ds_ret (de_callB (cr_all rfl) opn_all (by rfl) T.b_all bt_all (da_cons (de_comp (own := [("_law_edge", 2), ("_law_start", 3), ("_law_end", 4), ("_law_weight", 5)]) rfl sc_law_keeps.nd (blkOk_by (by kernel_rfl)) (di_seq (de_callD c_law_edges hr (da_cons (de_name 0) (da_nil)))) (fun _ _ _ _ _ => dgo_tup rfl (dgso_cons (dgo_name 2 sc_law_keeps.nd (by decide)) (dgso_cons (dgo_name 3 sc_law_keeps.nd (by decide)) (dgso_cons (dgo_name 4 sc_law_keeps.nd (by decide)) (dgso_cons (dgo_name 5 sc_law_keeps.nd (by decide)) (dgso_nil)))))) (fun _ _ _ _ _ => dts_nil) (fun _ _ _ _ _ => de_le (de_sub (de_ix (de_name 1) (de_name 4)) (de_ix (de_name 1) (de_name 3))) (de_name 5))) (da_nil)))) (dss_nil)), gm, F.kp, (F.binds fun _ _ _ _ _ _ us hl => match us, hl with | [_, _], _ => rfl)⟩

/-! ### _law_row -/
abbrev s_law_row : Stmt := topS 69
theorem sc_law_row : FnScope ["_law_stream_here", "_law_size", "_law_most", "_law_wide", "_law_row_here", "_law_turn"] ["_law_stream_here", "_law_size", "_law_most", "_law_wide"] (defScope s_law_row) := ⟨rfl, rfl, rfl, by decide +kernel, rfl, by decide +kernel, by decide +kernel⟩
def b_law_row : Fs := sCons (sNewL 4) (sCons (sFor [5] (iRange (eCallS 0 1 F_law_next (aCons (e2 gAdd (eName 2) (eC (.int 1))) (aNil)))) (gSet 5) (sCons (sApp 4 (eN gTup (aCons (eCallS 0 1 F_law_next (aCons (eName 1) (aNil))) (aCons (e2 (gI fun i j => i - j) (eCallS 0 1 F_law_next (aCons (e2 gAdd (e2 (gIC cMul fun i j => i * j) (eC (.int 2)) (eName 3)) (eC (.int 1))) (aNil))) (eName 3)) (aNil))))) (sNil))) (sCons (sRet (eN gTupOf (aCons (eName 4) (aNil)))) (sNil)))
def F_law_row : Strm → List D → Option (D × Strm) := runS 5 3 b_law_row
theorem k_law_row {P : Program} {w : World} {K : PySem.W.Frag} {mg : Str → Option Value} {base : Heap} (T : Gs K mg) (c_law_next : DefOkS P w K mg base "_law_next" 1 1 F_law_next) {f : Addr} {fd : FuncData} (F : Fun K "_law_row" "_law_row" s_law_row f fd) (gm : mg "_law_row" = some (.ref f)) : DefOkS P w K mg base "_law_row" 2 3 F_law_row :=
  ⟨f, fd, ["_law_stream_here", "_law_size", "_law_most", "_law_wide"], fn_stream (n := 3) F sc_law_row rfl (by decide) (fun a cdv A outer s H E hr => dss_cons (ds_newL 4 sc_law_row.nd) (dss_cons (ds_for [5] PassesOwn.never rfl (di_range (by rfl) T.b_range (de_callDS 0 c_law_next hr (da_cons (de_add (de_name 2) (de_int)) (da_nil)))) (dg_name 5 sc_law_row.nd) (dss_cons (ds_app 4 (de_tup (da_cons (de_callDS 0 c_law_next hr (da_cons (de_name 1) (da_nil))) (da_cons (de_sub (de_callDS 0 c_law_next hr (da_cons (de_add (de_mul (de_int) (de_name 3)) (de_int)) (da_nil))) (de_name 3)) (da_nil))))) (dss_nil))) (dss_cons (ds_ret (de_callTy call_tuple_of opn_tupOf (by rfl) T.b_tuple bt_tuple (da_cons (de_name 4) (da_nil)))) (dss_nil)))), gm, F.kp, (F.binds fun _ _ _ _ _ _ us hl => match us, hl with | [_, _, _, _], _ => rfl)⟩

/-! ### _law_clamped -/
abbrev s_law_clamped : Stmt := topS 70
theorem sc_law_clamped : FnScope ["_law_limit", "_law_low", "_law_high"] ["_law_limit", "_law_low", "_law_high"] (defScope s_law_clamped) := ⟨rfl, rfl, rfl, by decide +kernel, rfl, by decide +kernel, by decide +kernel⟩
def b_law_clamped : Fs := sCons (sIf (tBl (e1 gNotN (eName 1))) (sCons (sSet 0 (eN gMax2 (aCons (eName 0) (aCons (eName 1) (aNil))))) (sNil)) (sNil)) (sCons (sIf (tBl (e1 gNotN (eName 2))) (sCons (sSet 0 (eN gMin2 (aCons (eName 0) (aCons (eName 2) (aNil))))) (sNil)) (sNil)) (sCons (sRet (eName 0)) (sNil)))
def F_law_clamped : List D → Option D := runD 3 3 b_law_clamped
theorem k_law_clamped {P : Program} {w : World} {K : PySem.W.Frag} {mg : Str → Option Value} {base : Heap} (T : Gs K mg) {f : Addr} {fd : FuncData} (F : Fun K "_law_clamped" "_law_clamped" s_law_clamped f fd) (gm : mg "_law_clamped" = some (.ref f)) : DefOk P w K mg base "_law_clamped" 1 3 F_law_clamped :=
  ⟨f, fd, ["_law_limit", "_law_low", "_law_high"], fn_pure F sc_law_clamped (by decide) (fun cdv A outer s H E hr => dss_cons (ds_if (dt_c (dc_notN (de_name 1))) (dss_cons (ds_set 0 sc_law_clamped.nd (de_callB (call_max2 rfl) opn_max2 (by rfl) T.b_max bt_max (da_cons (de_name 0) (da_cons (de_name 1) (da_nil))))) (dss_nil)) (dss_nil)) (dss_cons (ds_if (dt_c (dc_notN (de_name 2))) (dss_cons (ds_set 0 sc_law_clamped.nd (de_callB (call_min2 rfl) opn_min2 (by rfl) T.b_min bt_min (da_cons (de_name 0) (da_cons (de_name 2) (da_nil))))) (dss_nil)) (dss_nil)) (dss_cons (ds_ret (de_name 0)) (dss_nil)))), gm, F.kp, (F.binds fun _ _ _ _ _ _ us hl => match us, hl with | [_, _, _], _ => rfl)⟩

/-! ### _law_next_limits -/
abbrev s_law_next_limits : Stmt := topS 71
theorem sc_law_next_limits : FnScope ["_law_pair", "_law_low", "_law_high", "_law_least", "_law_greatest"] ["_law_pair", "_law_low", "_law_high"] (defScope s_law_next_limits) := ⟨rfl, rfl, rfl, by decide +kernel, rfl, by decide +kernel, by decide +kernel⟩
def b_law_next_limits : Fs := sCons (sAsg (eName 0) (gTupT 2 (gsCons (gSet 3) (gsCons (gSet 4) (gsNil))))) (sCons (sIf (tBl (e1 gIsN (eName 3))) (sCons (sSet 3 (eName 1)) (sNil)) (sCons (sSet 3 (eCall 3 F_law_clamped (aCons (eName 3) (aCons (eName 1) (aCons (eName 2) (aNil)))))) (sNil))) (sCons (sIf (tBl (e1 gIsN (eName 4))) (sCons (sSet 4 (eName 2)) (sNil)) (sCons (sSet 4 (eCall 3 F_law_clamped (aCons (eName 4) (aCons (eName 1) (aCons (eName 2) (aNil)))))) (sNil))) (sCons (sRet (eN gTup (aCons (eName 3) (aCons (eName 4) (aNil))))) (sNil))))
def F_law_next_limits : List D → Option D := runD 5 3 b_law_next_limits
theorem k_law_next_limits {P : Program} {w : World} {K : PySem.W.Frag} {mg : Str → Option Value} {base : Heap} (T : Gs K mg) (c_law_clamped : DefOk P w K mg base "_law_clamped" 1 3 F_law_clamped) {f : Addr} {fd : FuncData} (F : Fun K "_law_next_limits" "_law_next_limits" s_law_next_limits f fd) (gm : mg "_law_next_limits" = some (.ref f)) : DefOk P w K mg base "_law_next_limits" 2 3 F_law_next_limits :=
  ⟨f, fd, ["_law_pair", "_law_low", "_law_high"], fn_pure F sc_law_next_limits (by decide) (fun cdv A outer s H E hr => dss_cons (ds_asg (de_name 0) (dg_tup rfl (dgs_cons (dg_name 3 sc_law_next_limits.nd) (dgs_cons (dg_name 4 sc_law_next_limits.nd) (dgs_nil))))) (dss_cons (ds_if (dt_c (dc_isN (de_name 3))) (dss_cons (ds_set 3 sc_law_next_limits.nd (de_name 1)) (dss_nil)) (dss_cons (ds_set 3 sc_law_next_limits.nd (de_callD c_law_clamped hr (da_cons (de_name 3) (da_cons (de_name 1) (da_cons (de_name 2) (da_nil)))))) (dss_nil))) (dss_cons (ds_if (dt_c (dc_isN (de_name 4))) (dss_cons (ds_set 4 sc_law_next_limits.nd (de_name 2)) (dss_nil)) (dss_cons (ds_set 4 sc_law_next_limits.nd (de_callD c_law_clamped hr (da_cons (de_name 4) (da_cons (de_name 1) (da_cons (de_name 2) (da_nil)))))) (dss_nil))) (dss_cons (ds_ret (de_tup (da_cons (de_name 3) (da_cons (de_name 4) (da_nil))))) (dss_nil))))), gm, F.kp, (F.binds fun _ _ _ _ _ _ us hl => match us, hl with | [_, _, _], _ => rfl)⟩

/-! ### _law_are_right -/
abbrev s_law_are_right : Stmt := topS 72
theorem sc_law_are_right : FnScope ["_law_net_here", "_law_value", "_law_one"] ["_law_net_here", "_law_value"] (defScope s_law_are_right) := ⟨rfl, rfl, rfl, by decide +kernel, rfl, by decide +kernel, by decide +kernel⟩
def b_law_are_right : Fs := sCons (sIf (tOr' (tNot' (tE (e1 (gIsi isTupD) (eName 1)))) (tOr' (tBl (e2 (gEqv true) (eN gLen (aCons (eName 1) (aNil))) (e2 gIx (eName 0) (eC (.int 0))))) (tNot' (tE (eN gAll (aCons (eComp [2] (iSeq (eName 1)) (gSet 2) (tYes') (eCall 1 F_law_is_integer (aCons (eName 2) (aNil)))) (aNil))))))) (sCons (sRet (eC (.bl false))) (sNil)) (sNil)) (sCons (sRet (eCall 2 F_law_keeps (aCons (eName 0) (aCons (eName 1) (aNil))))) (sNil))
def F_law_are_right : List D → Option D := runD 3 2 b_law_are_right
theorem k_law_are_right {P : Program} {w : World} {K : PySem.W.Frag} {mg : Str → Option Value} {base : Heap} (T : Gs K mg) (c_law_keeps : DefOk P w K mg base "_law_keeps" 2 2 F_law_keeps) (c_law_is_integer : DefOk P w K mg base "_law_is_integer" 1 1 F_law_is_integer) {f : Addr} {fd : FuncData} (F : Fun K "_law_are_right" "_law_are_right" s_law_are_right f fd) (gm : mg "_law_are_right" = some (.ref f)) : DefOk P w K mg base "_law_are_right" 3 2 F_law_are_right :=
  ⟨f, fd, ["_law_net_here", "_law_value"], fn_pure F sc_law_are_right (by decide) (fun cdv A outer s H E hr => dss_cons (ds_if (dt_w (dw_or (dt_not (dt_e (de_isi kit_tuple (de_name 1) (by rfl) T.b_isinstance bt_isinstance (by rfl) T.b_tuple bt_tuple))) (dw_or (dt_c (dc_ne hr.units (de_callB call_len opn_len (by rfl) T.b_len bt_len (da_cons (de_name 1) (da_nil))) (de_ix (de_name 0) (de_int)))) (dw_or1 (dt_not (dt_e (de_callB (cr_all rfl) opn_all (by rfl) T.b_all bt_all (da_cons (de_comp (own := [("_law_one", 2)]) rfl sc_law_are_right.nd (blkOk_by (by kernel_rfl)) (di_seq (de_name 1)) (fun _ _ _ _ _ => dgo_name 2 sc_law_are_right.nd (by decide)) (fun _ _ _ _ _ => dts_nil) (fun _ _ _ _ _ => de_callD c_law_is_integer hr (da_cons (de_name 2) (da_nil)))) (da_nil))))))))) (dss_cons (ds_ret (de_bl)) (dss_nil)) (dss_nil)) (dss_cons (ds_ret (de_callD c_law_keeps hr (da_cons (de_name 0) (da_cons (de_name 1) (da_nil))))) (dss_nil))), gm, F.kp, (F.binds fun _ _ _ _ _ _ us hl => match us, hl with | [_, _], _ => rfl)⟩

/-! ### _law_walk -/
abbrev s_law_walk : Stmt := topS 73
theorem sc_law_walk : FnScope ["_law_net_here", "_law_start", "_law_value", "_law_here", "_law_length", "_law_item", "_law_found", "_law_row_here"] ["_law_net_here", "_law_start", "_law_value"] (defScope s_law_walk) := ⟨rfl, rfl, rfl, by decide +kernel, rfl, by decide +kernel, by decide +kernel⟩
def b_law_walk : Fs := sCons (sIf (tNot' (tE (e1 (gIsi isTupD) (eName 2)))) (sCons (sRet (eC .non)) (sNil)) (sNil)) (sCons (sSet 3 (eName 1)) (sCons (sSet 4 (eC (.int 0))) (sCons (sFor [5, 6, 7] (iSeq (eName 2)) (gSet 5) (sCons (sIf (tOr' (tNot' (tE (e1 (gIsi isTupD) (eName 5)))) (tOr' (tBl (e2 (gEqv true) (eN gLen (aCons (eName 5) (aNil))) (eC (.int 2)))) (tOr' (tNot' (tE (eCall 1 F_law_is_integer (aCons (e2 gIx (eName 5) (eC (.int 0))) (aNil))))) (tNot' (tE (e1 (gIsi isStrD) (e2 gIx (eName 5) (eC (.int 1))))))))) (sCons (sRet (eC .non)) (sNil)) (sNil)) (sCons (sSet 6 (eComp [7] (iSeq (eCall 1 F_law_edges (aCons (eName 0) (aNil)))) (gSet 7) (tAnd' (tBl (e2 (gEqv false) (e2 gIx (eName 7) (eC (.int 0))) (eName 5))) (tBl (e2 (gEqv false) (e2 gIx (eName 7) (eC (.int 1))) (eName 3)))) (eName 7))) (sCons (sIf (tNot' (tE (eName 6))) (sCons (sRet (eC .non)) (sNil)) (sNil)) (sCons (sSet 3 (e2 gIx (e2 gIx (eName 6) (eC (.int 0))) (eC (.int 2)))) (sCons (sSet 4 (e2 gAdd (eName 4) (e2 gIx (e2 gIx (eName 6) (eC (.int 0))) (eC (.int 3))))) (sNil))))))) (sCons (sRet (eN gTup (aCons (eName 3) (aCons (eName 4) (aNil))))) (sNil)))))
def F_law_walk : List D → Option D := runD 8 3 b_law_walk
theorem k_law_walk {P : Program} {w : World} {K : PySem.W.Frag} {mg : Str → Option Value} {base : Heap} (T : Gs K mg) (c_law_edges : DefOk P w K mg base "_law_edges" 1 1 F_law_edges) (c_law_is_integer : DefOk P w K mg base "_law_is_integer" 1 1 F_law_is_integer) {f : Addr} {fd : FuncData} (F : Fun K "_law_walk" "_law_walk" s_law_walk f fd) (gm : mg "_law_walk" = some (.ref f)) : DefOk P w K mg base "_law_walk" 2 3 F_law_walk :=
  ⟨f, fd, ["_law_net_here", "_law_start", "_law_value"], fn_pure F sc_law_walk (by decide) (fun cdv A outer s H E hr => dss_cons (ds_if (dt_not (dt_e (de_isi kit_tuple (de_name 2) (by rfl) T.b_isinstance bt_isinstance (by rfl) T.b_tuple bt_tuple))) (dss_cons (ds_ret (de_non)) (dss_nil)) (dss_nil)) (dss_cons (ds_set 3 sc_law_walk.nd (de_name 1)) (dss_cons (ds_set 4 sc_law_walk.nd (de_int)) (dss_cons (ds_for [5, 6, 7] PassesOwn.never rfl (di_seq (de_name 2)) (dg_name 5 sc_law_walk.nd) (dss_cons (ds_if (dt_w (dw_or (dt_not (dt_e (de_isi kit_tuple (de_name 5) (by rfl) T.b_isinstance bt_isinstance (by rfl) T.b_tuple bt_tuple))) (dw_or (dt_c (dc_ne hr.units (de_callB call_len opn_len (by rfl) T.b_len bt_len (da_cons (de_name 5) (da_nil))) (de_int))) (dw_or (dt_not (dt_e (de_callD c_law_is_integer hr (da_cons (de_ix (de_name 5) (de_int)) (da_nil))))) (dw_or1 (dt_not (dt_e (de_isi kit_str (de_ix (de_name 5) (de_int)) (by rfl) T.b_isinstance bt_isinstance (by rfl) T.b_str bt_str)))))))) (dss_cons (ds_ret (de_non)) (dss_nil)) (dss_nil)) (dss_cons (ds_setLc 6 (own := [("_law_row_here", 7)]) rfl sc_law_walk.nd (blkOk_by (by kernel_rfl)) (di_seq (de_callD c_law_edges hr (da_cons (de_name 0) (da_nil)))) (fun _ _ _ _ _ => dgo_name 7 sc_law_walk.nd (by decide)) (fun _ _ _ _ _ => dts_one (dt_w (dw_and (dt_c (dc_eq hr.units (de_ix (de_name 7) (de_int)) (de_name 5))) (dw_and1 (dt_c (dc_eq hr.units (de_ix (de_name 7) (de_int)) (de_name 3))))))) (fun _ _ _ _ _ => de_name 7)) (dss_cons (ds_if (dt_not (dt_e (de_name 6))) (dss_cons (ds_ret (de_non)) (dss_nil)) (dss_nil)) (dss_cons (ds_set 3 sc_law_walk.nd (de_ix (de_ix (de_name 6) (de_int)) (de_int))) (dss_cons (ds_set 4 sc_law_walk.nd (de_add (de_name 4) (de_ix (de_ix (de_name 6) (de_int)) (de_int)))) (dss_nil))))))) (dss_cons (ds_ret (de_tup (da_cons (de_name 3) (da_cons (de_name 4) (da_nil))))) (dss_nil)))))), gm, F.kp, (F.binds fun _ _ _ _ _ _ us hl => match us, hl with | [_, _, _], _ => rfl)⟩

/-! ### _law_is_set -/
abbrev s_law_is_set : Stmt := topS 74
theorem sc_law_is_set : FnScope ["_law_net_here", "_law_value", "_law_one", "_law_k"] ["_law_net_here", "_law_value"] (defScope s_law_is_set) := ⟨rfl, rfl, rfl, by decide +kernel, rfl, by decide +kernel, by decide +kernel⟩
def b_law_is_set : Fs := sCons (sIf (tOr' (tNot' (tE (e1 (gIsi isTupD) (eName 1)))) (tNot' (tE (eN gAll (aCons (eComp [2] (iSeq (eName 1)) (gSet 2) (tYes') (eAnd (eCall 1 F_law_is_integer (aCons (eName 2) (aNil))) (eChain (gB fun i j => decide (i ≤ j)) (gB fun i j => decide (i < j)) (eC (.int 0)) (eName 2) (e2 gIx (eName 0) (eC (.int 0)))))) (aNil)))))) (sCons (sRet (eC (.bl false))) (sNil)) (sNil)) (sCons (sRet (eN gAll (aCons (eComp [3] (iRange (e2 (gI fun i j => i - j) (eN gLen (aCons (eName 1) (aNil))) (eC (.int 1)))) (gSet 3) (tYes') (e2 (gB fun i j => decide (i < j)) (e2 gIx (eName 1) (eName 3)) (e2 gIx (eName 1) (e2 gAdd (eName 3) (eC (.int 1)))))) (aNil)))) (sNil))
def F_law_is_set : List D → Option D := runD 4 2 b_law_is_set
theorem k_law_is_set {P : Program} {w : World} {K : PySem.W.Frag} {mg : Str → Option Value} {base : Heap} (T : Gs K mg) (c_law_is_integer : DefOk P w K mg base "_law_is_integer" 1 1 F_law_is_integer) {f : Addr} {fd : FuncData} (F : Fun K "_law_is_set" "_law_is_set" s_law_is_set f fd) (gm : mg "_law_is_set" = some (.ref f)) : DefOk P w K mg base "_law_is_set" 2 2 F_law_is_set :=
  ⟨f, fd, ["_law_net_here", "_law_value"], fn_pure F sc_law_is_set (by decide) (fun cdv A outer s H E hr => dss_cons (ds_if (dt_w (dw_or (dt_not (dt_e (de_isi kit_tuple (de_name 1) (by rfl) T.b_isinstance bt_isinstance (by rfl) T.b_tuple bt_tuple))) (dw_or1 (dt_not (dt_e (de_callB (cr_all rfl) opn_all (by rfl) T.b_all bt_all (da_cons (de_comp (own := [("_law_one", 2)]) rfl sc_law_is_set.nd (blkOk_by (by kernel_rfl)) (di_seq (de_name 1)) (fun _ _ _ _ _ => dgo_name 2 sc_law_is_set.nd (by decide)) (fun _ _ _ _ _ => dts_nil) (fun _ _ _ _ _ => de_and (de_callD c_law_is_integer hr (da_cons (de_name 2) (da_nil))) (de_one (de_chain op_le op_lt op2_B op2_B (de_int) (de_name 2) (de_ix (de_name 0) (de_int)))))) (da_nil)))))))) (dss_cons (ds_ret (de_bl)) (dss_nil)) (dss_nil)) (dss_cons (ds_ret (de_callB (cr_all rfl) opn_all (by rfl) T.b_all bt_all (da_cons (de_comp (own := [("_law_k", 3)]) rfl sc_law_is_set.nd (blkOk_by (by kernel_rfl)) (di_range (by rfl) T.b_range (de_sub (de_callB call_len opn_len (by rfl) T.b_len bt_len (da_cons (de_name 1) (da_nil))) (de_int))) (fun _ _ _ _ _ => dgo_name 3 sc_law_is_set.nd (by decide)) (fun _ _ _ _ _ => dts_nil) (fun _ _ _ _ _ => de_lt (de_ix (de_name 1) (de_name 3)) (de_ix (de_name 1) (de_add (de_name 3) (de_int))))) (da_nil)))) (dss_nil))), gm, F.kp, (F.binds fun _ _ _ _ _ _ us hl => match us, hl with | [_, _], _ => rfl)⟩

/-! ### _law_is_bound -/
abbrev s_law_is_bound : Stmt := topS 75
theorem sc_law_is_bound : FnScope ["_law_net_here", "_law_start", "_law_end", "_law_number", "_law_value", "_law_heights", "_law_chosen", "_law_edge", "_law_near", "_law_far", "_law_weight", "_law_walk_here"] ["_law_net_here", "_law_start", "_law_end", "_law_number", "_law_value"] (defScope s_law_is_bound) := ⟨rfl, rfl, rfl, by decide +kernel, rfl, by decide +kernel, by decide +kernel⟩
def b_law_is_bound : Fs := sCons (sIf (tOr' (tNot' (tE (e1 (gIsi isTupD) (eName 4)))) (tBl (e2 (gEqv true) (eN gLen (aCons (eName 4) (aNil))) (eC (.int 2))))) (sCons (sRet (eC (.bl false))) (sNil)) (sNil)) (sCons (sIf (tBl (e1 gIsN (eName 3))) (sCons (sAsg (eName 4) (gTupT 2 (gsCons (gSet 5) (gsCons (gSet 6) (gsNil))))) (sCons (sIf (tOr' (tNot' (tE (eCall 2 F_law_are_right (aCons (eName 0) (aCons (eName 5) (aNil)))))) (tOr' (tNot' (tE (eCall 2 F_law_is_set (aCons (eName 0) (aCons (eName 6) (aNil)))))) (tOr' (tBl (e2 (gInS true) (eName 2) (eName 6))) (tBl (e2 (gInS false) (eName 1) (eName 6)))))) (sCons (sRet (eC (.bl false))) (sNil)) (sNil)) (sCons (sRet (e1 gNot (eN gAny (aCons (eComp [7, 8, 9, 10] (iSeq (eCall 1 F_law_edges (aCons (eName 0) (aNil)))) (gTupT 4 (gsCons (gSet 7) (gsCons (gSet 8) (gsCons (gSet 9) (gsCons (gSet 10) (gsNil)))))) (tYes') (eAnd (e2 (gInS true) (eName 8) (eName 6)) (e2 (gInS false) (eName 9) (eName 6)))) (aNil))))) (sNil)))) (sNil)) (sCons (sAsg (eName 4) (gTupT 2 (gsCons (gSet 11) (gsCons (gSet 5) (gsNil))))) (sCons (sIf (tOr' (tNot' (tE (eCall 1 F_law_is_integer (aCons (eName 3) (aNil))))) (tNot' (tE (eCall 2 F_law_are_right (aCons (eName 0) (aCons (eName 5) (aNil))))))) (sCons (sRet (eC (.bl false))) (sNil)) (sNil)) (sCons (sRet (eAnd (e2 (gEqv false) (e2 (gI fun i j => i - j) (e2 gIx (eName 5) (eName 2)) (e2 gIx (eName 5) (eName 1))) (eName 3)) (e2 (gEqv false) (eCall 3 F_law_walk (aCons (eName 0) (aCons (eName 1) (aCons (eName 11) (aNil))))) (eN gTup (aCons (eName 2) (aCons (eName 3) (aNil))))))) (sNil)))))
def F_law_is_bound : List D → Option D := runD 12 5 b_law_is_bound
theorem k_law_is_bound {P : Program} {w : World} {K : PySem.W.Frag} {mg : Str → Option Value} {base : Heap} (T : Gs K mg) (c_law_walk : DefOk P w K mg base "_law_walk" 2 3 F_law_walk) (c_law_is_integer : DefOk P w K mg base "_law_is_integer" 1 1 F_law_is_integer) (c_law_are_right : DefOk P w K mg base "_law_are_right" 3 2 F_law_are_right) (c_law_edges : DefOk P w K mg base "_law_edges" 1 1 F_law_edges) (c_law_is_set : DefOk P w K mg base "_law_is_set" 2 2 F_law_is_set) {f : Addr} {fd : FuncData} (F : Fun K "_law_is_bound" "_law_is_bound" s_law_is_bound f fd) (gm : mg "_law_is_bound" = some (.ref f)) : DefOk P w K mg base "_law_is_bound" 4 5 F_law_is_bound :=
  ⟨f, fd, ["_law_net_here", "_law_start", "_law_end", "_law_number", "_law_value"], fn_pure F sc_law_is_bound (by decide) (fun cdv A outer s H E hr => dss_cons (ds_if (dt_w (dw_or (dt_not (dt_e (de_isi kit_tuple (de_name 4) (by rfl) T.b_isinstance bt_isinstance (by rfl) T.b_tuple bt_tuple))) (dw_or1 (dt_c (dc_ne hr.units (de_callB call_len opn_len (by rfl) T.b_len bt_len (da_cons (de_name 4) (da_nil))) (de_int)))))) (dss_cons (ds_ret (de_bl)) (dss_nil)) (dss_nil)) (dss_cons (ds_if (dt_c (dc_isN (de_name 3))) (dss_cons (ds_asg (de_name 4) (dg_tup rfl (dgs_cons (dg_name 5 sc_law_is_bound.nd) (dgs_cons (dg_name 6 sc_law_is_bound.nd) (dgs_nil))))) (dss_cons (ds_if (dt_w (dw_or (dt_not (dt_e (de_callD c_law_are_right hr (da_cons (de_name 0) (da_cons (de_name 5) (da_nil)))))) (dw_or (dt_not (dt_e (de_callD c_law_is_set hr (da_cons (de_name 0) (da_cons (de_name 6) (da_nil)))))) (dw_or (dt_c (dc_notInS (de_name 2) (de_name 6))) (dw_or1 (dt_c (dc_inS (de_name 1) (de_name 6)))))))) (dss_cons (ds_ret (de_bl)) (dss_nil)) (dss_nil)) (dss_cons (ds_ret (de_not (de_callB (cr_any rfl) opn_any (by rfl) T.b_any bt_any (da_cons (de_comp (own := [("_law_edge", 7), ("_law_near", 8), ("_law_far", 9), ("_law_weight", 10)]) rfl sc_law_is_bound.nd (blkOk_by (by kernel_rfl)) (di_seq (de_callD c_law_edges hr (da_cons (de_name 0) (da_nil)))) (fun _ _ _ _ _ => dgo_tup rfl (dgso_cons (dgo_name 7 sc_law_is_bound.nd (by decide)) (dgso_cons (dgo_name 8 sc_law_is_bound.nd (by decide)) (dgso_cons (dgo_name 9 sc_law_is_bound.nd (by decide)) (dgso_cons (dgo_name 10 sc_law_is_bound.nd (by decide)) (dgso_nil)))))) (fun _ _ _ _ _ => dts_nil) (fun _ _ _ _ _ => de_and (de_notInS (de_name 8) (de_name 6)) (de_one (de_inS (de_name 9) (de_name 6))))) (da_nil))))) (dss_nil)))) (dss_nil)) (dss_cons (ds_asg (de_name 4) (dg_tup rfl (dgs_cons (dg_name 11 sc_law_is_bound.nd) (dgs_cons (dg_name 5 sc_law_is_bound.nd) (dgs_nil))))) (dss_cons (ds_if (dt_w (dw_or (dt_not (dt_e (de_callD c_law_is_integer hr (da_cons (de_name 3) (da_nil))))) (dw_or1 (dt_not (dt_e (de_callD c_law_are_right hr (da_cons (de_name 0) (da_cons (de_name 5) (da_nil))))))))) (dss_cons (ds_ret (de_bl)) (dss_nil)) (dss_nil)) (dss_cons (ds_ret (de_and (de_eq hr.units (de_sub (de_ix (de_name 5) (de_name 2)) (de_ix (de_name 5) (de_name 1))) (de_name 3)) (de_one (de_eq hr.units (de_callD c_law_walk hr (da_cons (de_name 0) (da_cons (de_name 1) (da_cons (de_name 11) (da_nil))))) (de_tup (da_cons (de_name 2) (da_cons (de_name 3) (da_nil)))))))) (dss_nil)))))), gm, F.kp, (F.binds fun _ _ _ _ _ _ us hl => match us, hl with | [_, _, _, _, _], _ => rfl)⟩
end Kx
set_option Elab.async false
set_option linter.all false
set_option maxRecDepth 100000
set_option maxHeartbeats 4000000
namespace Kx
open PySem PySem.Spec PyProof.Rows L2
/-! ### _law_turned_walk -/
abbrev s_law_turned_walk : Stmt := topS 76
theorem sc_law_turned_walk : FnScope ["_law_stream_here", "_law_walk_here", "_law_at", "_law_index", "_law_side", "_law_other", "_law_row_here", "_law_pick"] ["_law_stream_here", "_law_walk_here"] (defScope s_law_turned_walk) := ⟨rfl, rfl, rfl, by decide +kernel, rfl, by decide +kernel, by decide +kernel⟩
def b_law_turned_walk : Fs := sCons (sIf (tNot' (tE (eName 1))) (sCons (sRet (e2 gIx (eN gLst (aCons (eC .non) (aCons (eN gLst (aNil)) (aCons (eN gTup (aCons (eN gTup (aCons (eC (.int 0)) (aCons (eC (.str "low")) (aNil)))) (aNil))) (aCons (eN gTup (aCons (eN gTup (aCons (eC (.int 0)) (aCons (eC (.str "high")) (aNil)))) (aNil))) (aCons (eName 1) (aNil))))))) (eCallS 0 1 F_law_next (aCons (eC (.int 5)) (aNil))))) (sNil)) (sNil)) (sCons (sSet 2 (e2 gIx (eN gLst (aCons (eC (.int 0)) (aCons (e2 (gIC cDiv fun i j => i / j) (eN gLen (aCons (eName 1) (aNil))) (eC (.int 2))) (aCons (e2 (gI fun i j => i - j) (eN gLen (aCons (eName 1) (aNil))) (eC (.int 1))) (aNil))))) (eCallS 0 1 F_law_next (aCons (eC (.int 3)) (aNil))))) (sCons (sAsg (e2 gIx (eName 1) (eName 2)) (gTupT 2 (gsCons (gSet 3) (gsCons (gSet 4) (gsNil))))) (sCons (sSet 5 (eN gLst (aCons (eN gTup (aCons (eName 3) (aCons (e2 gIx (eN gLst (aCons (eC (.str "low")) (aCons (eC (.str "high")) (aNil)))) (eN gInt (aCons (e2 (gEqv false) (eName 4) (eC (.str "low"))) (aNil)))) (aNil)))) (aCons (eN gTup (aCons (e2 gAdd (eName 3) (eC (.int 1))) (aCons (eName 4) (aNil)))) (aCons (eN gTup (aCons (e2 (gI fun i j => i - j) (eName 3) (eC (.int 1))) (aCons (eName 4) (aNil)))) (aCons (eN gTup (aCons (eC (.bl true)) (aCons (eName 4) (aNil)))) (aCons (eN gLst (aCons (eName 3) (aCons (eName 4) (aNil)))) (aCons (eN gTup (aCons (eName 3) (aNil))) (aCons (eN gTup (aCons (eName 3) (aCons (eC .non) (aNil)))) (aNil)))))))))) (sCons (sSet 6 (eN gLst (aCons (eC .non) (aCons (eN gLstOf (aCons (eName 1) (aNil))) (aCons (e2 gAdd (eSl (eName 1) (oNone) (oSome (eName 2))) (eSl (eName 1) (oSome (e2 gAdd (eName 2) (eC (.int 1)))) (oNone))) (aCons (e2 gAdd (e2 gAdd (eSl (eName 1) (oNone) (oSome (eName 2))) (eSl (eName 1) (oSome (eName 2)) (oSome (e2 gAdd (eName 2) (eC (.int 1)))))) (eSl (eName 1) (oSome (eName 2)) (oNone))) (aCons (e1 gRev (eName 1)) (aCons (eN gTup (aNil)) (aCons (eName 1) (aNil)))))))))) (sCons (sSet 7 (eCallS 0 1 F_law_next (aCons (eC (.int 14)) (aNil)))) (sCons (sIf (tBl (e2 (gB fun i j => decide (i < j)) (eName 7) (eC (.int 7)))) (sCons (sRet (e2 gIx (eName 6) (eName 7))) (sNil)) (sNil)) (sCons (sRet (e2 gAdd (e2 gAdd (eSl (eName 1) (oNone) (oSome (eName 2))) (eN gTup (aCons (e2 gIx (eName 5) (e2 (gI fun i j => i - j) (eName 7) (eC (.int 7)))) (aNil)))) (eSl (eName 1) (oSome (e2 gAdd (eName 2) (eC (.int 1)))) (oNone)))) (sNil))))))))
def F_law_turned_walk : Strm → List D → Option (D × Strm) := runS 7 1 b_law_turned_walk
theorem k_law_turned_walk {P : Program} {w : World} {K : PySem.W.Frag} {mg : Str → Option Value} {base : Heap} (T : Gs K mg) (c_law_next : DefOkS P w K mg base "_law_next" 1 1 F_law_next) {f : Addr} {fd : FuncData} (F : Fun K "_law_turned_walk" "_law_turned_walk" s_law_turned_walk f fd) (gm : mg "_law_turned_walk" = some (.ref f)) : DefOkS P w K mg base "_law_turned_walk" 2 1 F_law_turned_walk :=
  ⟨f, fd, ["_law_stream_here", "_law_walk_here"], fn_stream (n := 1) F sc_law_turned_walk rfl (by decide) (fun a cdv A outer s H E hr => dss_cons (ds_if (dt_not (dt_e (de_name 1))) (dss_cons (ds_ret (de_ix (de_lst (da_cons (de_non) (da_cons (de_lst (da_nil)) (da_cons (de_tup (da_cons (de_tup (da_cons (de_int) (da_cons (de_str) (da_nil)))) (da_nil))) (da_cons (de_tup (da_cons (de_tup (da_cons (de_int) (da_cons (de_str) (da_nil)))) (da_nil))) (da_cons (de_name 1) (da_nil))))))) (de_callDS 0 c_law_next hr (da_cons (de_int) (da_nil))))) (dss_nil)) (dss_nil)) (dss_cons (ds_set 2 sc_law_turned_walk.nd (de_ix (de_lst (da_cons (de_int) (da_cons (de_fdiv (de_callB call_len opn_len (by rfl) T.b_len bt_len (da_cons (de_name 1) (da_nil))) (de_int)) (da_cons (de_sub (de_callB call_len opn_len (by rfl) T.b_len bt_len (da_cons (de_name 1) (da_nil))) (de_int)) (da_nil))))) (de_callDS 0 c_law_next hr (da_cons (de_int) (da_nil))))) (dss_cons (ds_asg (de_ix (de_name 1) (de_name 2)) (dg_tup rfl (dgs_cons (dg_name 3 sc_law_turned_walk.nd) (dgs_cons (dg_name 4 sc_law_turned_walk.nd) (dgs_nil))))) (dss_cons (ds_set 5 sc_law_turned_walk.nd (de_lst (da_cons (de_tup (da_cons (de_name 3) (da_cons (de_ix (de_lst (da_cons (de_str) (da_cons (de_str) (da_nil)))) (de_callTy call_int1 opn_int (by rfl) T.b_int bt_int (da_cons (de_eq hr.units (de_name 4) (de_str)) (da_nil)))) (da_nil)))) (da_cons (de_tup (da_cons (de_add (de_name 3) (de_int)) (da_cons (de_name 4) (da_nil)))) (da_cons (de_tup (da_cons (de_sub (de_name 3) (de_int)) (da_cons (de_name 4) (da_nil)))) (da_cons (de_tup (da_cons (de_bl) (da_cons (de_name 4) (da_nil)))) (da_cons (de_lst (da_cons (de_name 3) (da_cons (de_name 4) (da_nil)))) (da_cons (de_tup (da_cons (de_name 3) (da_nil))) (da_cons (de_tup (da_cons (de_name 3) (da_cons (de_non) (da_nil)))) (da_nil)))))))))) (dss_cons (ds_set 6 sc_law_turned_walk.nd (de_lst (da_cons (de_non) (da_cons (de_callTy call_list_of opn_lstOf (by rfl) T.b_list bt_list (da_cons (de_name 1) (da_nil))) (da_cons (de_add (de_slice (de_name 1) (do_none) (do_some (de_name 2))) (de_slice (de_name 1) (do_some (de_add (de_name 2) (de_int))) (do_none))) (da_cons (de_add (de_add (de_slice (de_name 1) (do_none) (do_some (de_name 2))) (de_slice (de_name 1) (do_some (de_name 2)) (do_some (de_add (de_name 2) (de_int))))) (de_slice (de_name 1) (do_some (de_name 2)) (do_none))) (da_cons (de_rev (de_name 1)) (da_cons (de_tup (da_nil)) (da_cons (de_name 1) (da_nil)))))))))) (dss_cons (ds_set 7 sc_law_turned_walk.nd (de_callDS 0 c_law_next hr (da_cons (de_int) (da_nil)))) (dss_cons (ds_if (dt_c (dc_lt (de_name 7) (de_int))) (dss_cons (ds_ret (de_ix (de_name 6) (de_name 7))) (dss_nil)) (dss_nil)) (dss_cons (ds_ret (de_add (de_add (de_slice (de_name 1) (do_none) (do_some (de_name 2))) (de_tup (da_cons (de_ix (de_name 5) (de_sub (de_name 7) (de_int))) (da_nil)))) (de_slice (de_name 1) (do_some (de_add (de_name 2) (de_int))) (do_none)))) (dss_nil))))))))), gm, F.kp, (F.binds fun _ _ _ _ _ _ us hl => match us, hl with | [_, _], _ => rfl)⟩

/-! ### _law_turned_heights -/
abbrev s_law_turned_heights : Stmt := topS 77
theorem sc_law_turned_heights : FnScope ["_law_stream_here", "_law_heights", "_law_at", "_law_time", "_law_items", "_law_pick", "_law_one"] ["_law_stream_here", "_law_heights"] (defScope s_law_turned_heights) := ⟨rfl, rfl, rfl, by decide +kernel, rfl, by decide +kernel, by decide +kernel⟩
def b_law_turned_heights : Fs := sCons (sSet 2 (e2 gIx (eN gLst (aCons (eC (.int 0)) (aCons (e2 (gIC cDiv fun i j => i / j) (eN gLen (aCons (eName 1) (aNil))) (eC (.int 2))) (aCons (e2 (gI fun i j => i - j) (eN gLen (aCons (eName 1) (aNil))) (eC (.int 1))) (aNil))))) (eCallS 0 1 F_law_next (aCons (eC (.int 3)) (aNil))))) (sCons (sSet 3 (e2 gIx (eName 1) (eName 2))) (sCons (sSet 4 (eN gLst (aCons (e2 gAdd (eName 3) (eC (.int 1))) (aCons (e2 (gI fun i j => i - j) (eName 3) (eC (.int 1))) (aCons (e2 gAdd (eName 3) (eC (.int 7))) (aCons (e2 (gI fun i j => i - j) (eName 3) (eC (.int 7))) (aCons (eC .non) (aCons (eC (.bl true)) (aCons (eN gStr (aCons (eName 3) (aNil))) (aCons (eName 3) (aNil))))))))))) (sCons (sSet 5 (eCallS 0 1 F_law_next (aCons (eC (.int 13)) (aNil)))) (sCons (sIf (tBl (e2 (gB fun i j => decide (i < j)) (eName 5) (eC (.int 5)))) (sCons (sRet (e2 gIx (eN gLst (aCons (eC .non) (aCons (eN gLstOf (aCons (eName 1) (aNil))) (aCons (eSl (eName 1) (oSome (eC (.int 1))) (oNone)) (aCons (e2 gAdd (eName 1) (eN gTup (aCons (eC (.int 0)) (aNil)))) (aCons (eN gTupOf (aCons (eComp [6] (iSeq (eName 1)) (gSet 6) (tYes') (e2 gAdd (eName 6) (eC (.int 3)))) (aNil))) (aNil))))))) (eName 5))) (sNil)) (sNil)) (sCons (sRet (e2 gAdd (e2 gAdd (eSl (eName 1) (oNone) (oSome (eName 2))) (eN gTup (aCons (e2 gIx (eName 4) (e2 (gI fun i j => i - j) (eName 5) (eC (.int 5)))) (aNil)))) (eSl (eName 1) (oSome (e2 gAdd (eName 2) (eC (.int 1)))) (oNone)))) (sNil))))))
def F_law_turned_heights : Strm → List D → Option (D × Strm) := runS 6 1 b_law_turned_heights
theorem k_law_turned_heights {P : Program} {w : World} {K : PySem.W.Frag} {mg : Str → Option Value} {base : Heap} (T : Gs K mg) (c_law_next : DefOkS P w K mg base "_law_next" 1 1 F_law_next) {f : Addr} {fd : FuncData} (F : Fun K "_law_turned_heights" "_law_turned_heights" s_law_turned_heights f fd) (gm : mg "_law_turned_heights" = some (.ref f)) : DefOkS P w K mg base "_law_turned_heights" 2 1 F_law_turned_heights :=
  ⟨f, fd, ["_law_stream_here", "_law_heights"], fn_stream (n := 1) F sc_law_turned_heights rfl (by decide) (fun a cdv A outer s H E hr => dss_cons (ds_set 2 sc_law_turned_heights.nd (de_ix (de_lst (da_cons (de_int) (da_cons (de_fdiv (de_callB call_len opn_len (by rfl) T.b_len bt_len (da_cons (de_name 1) (da_nil))) (de_int)) (da_cons (de_sub (de_callB call_len opn_len (by rfl) T.b_len bt_len (da_cons (de_name 1) (da_nil))) (de_int)) (da_nil))))) (de_callDS 0 c_law_next hr (da_cons (de_int) (da_nil))))) (dss_cons (ds_set 3 sc_law_turned_heights.nd (de_ix (de_name 1) (de_name 2))) (dss_cons (ds_set 4 sc_law_turned_heights.nd (de_lst (da_cons (de_add (de_name 3) (de_int)) (da_cons (de_sub (de_name 3) (de_int)) (da_cons (de_add (de_name 3) (de_int)) (da_cons (de_sub (de_name 3) (de_int)) (da_cons (de_non) (da_cons (de_bl) (da_cons (de_callTy call_str_int opn_str (by rfl) T.b_str bt_str (da_cons (de_name 3) (da_nil))) (da_cons (de_name 3) (da_nil))))))))))) (dss_cons (ds_set 5 sc_law_turned_heights.nd (de_callDS 0 c_law_next hr (da_cons (de_int) (da_nil)))) (dss_cons (ds_if (dt_c (dc_lt (de_name 5) (de_int))) (dss_cons (ds_ret (de_ix (de_lst (da_cons (de_non) (da_cons (de_callTy call_list_of opn_lstOf (by rfl) T.b_list bt_list (da_cons (de_name 1) (da_nil))) (da_cons (de_slice (de_name 1) (do_some (de_int)) (do_none)) (da_cons (de_add (de_name 1) (de_tup (da_cons (de_int) (da_nil)))) (da_cons (de_callTy call_tuple_of opn_tupOf (by rfl) T.b_tuple bt_tuple (da_cons (de_comp (own := [("_law_one", 6)]) rfl sc_law_turned_heights.nd (blkOk_by (by kernel_rfl)) (di_seq (de_name 1)) (fun _ _ _ _ _ => dgo_name 6 sc_law_turned_heights.nd (by decide)) (fun _ _ _ _ _ => dts_nil) (fun _ _ _ _ _ => de_add (de_name 6) (de_int))) (da_nil))) (da_nil))))))) (de_name 5))) (dss_nil)) (dss_nil)) (dss_cons (ds_ret (de_add (de_add (de_slice (de_name 1) (do_none) (do_some (de_name 2))) (de_tup (da_cons (de_ix (de_name 4) (de_sub (de_name 5) (de_int))) (da_nil)))) (de_slice (de_name 1) (do_some (de_add (de_name 2) (de_int))) (do_none)))) (dss_nil))))))), gm, F.kp, (F.binds fun _ _ _ _ _ _ us hl => match us, hl with | [_, _], _ => rfl)⟩

/-! ### _law_is_right -/
abbrev s_law_is_right : Stmt := topS 78
theorem sc_law_is_right : FnScope ["_law_net_here", "_law_row_here", "_law_event", "_law_pair", "_law_value", "_law_one", "_law_found", "_law_k", "_law_item", "_law_low", "_law_high"] ["_law_net_here", "_law_row_here", "_law_event", "_law_pair", "_law_value"] (defScope s_law_is_right) := ⟨rfl, rfl, rfl, by decide +kernel, rfl, by decide +kernel, by decide +kernel⟩
def b_law_is_right : Fs := sCons (sIf (tOr' (tNot' (tE (e1 (gIsi isTupD) (eName 3)))) (tOr' (tBl (e2 (gEqv true) (eN gLen (aCons (eName 3) (aNil))) (eC (.int 2)))) (tNot' (tE (eN gAll (aCons (eComp [5] (iSeq (eName 3)) (gSet 5) (tYes') (eOr (e1 gIsN (eName 5)) (eCall 1 F_law_is_integer (aCons (eName 5) (aNil))))) (aNil))))))) (sCons (sRet (eC (.bl false))) (sNil)) (sNil)) (sCons (sIf (tOr' (tNot' (tE (e1 (gIsi isTupD) (eName 4)))) (tBl (e2 (gEqv true) (eN gLen (aCons (eName 4) (aNil))) (eN gLen (aCons (eName 1) (aNil)))))) (sCons (sRet (eC (.bl false))) (sNil)) (sNil)) (sCons (sSet 6 (eN gTup (aCons (eC .non) (aCons (eC .non) (aNil))))) (sCons (sFor [5, 7, 8, 9, 10] (iRange (eN gLen (aCons (eName 1) (aNil)))) (gSet 7) (sCons (sSet 8 (e2 gIx (eName 4) (eName 7))) (sCons (sIf (tOr' (tNot' (tE (e1 (gIsi isTupD) (eName 8)))) (tOr' (tBl (e2 (gEqv true) (eN gLen (aCons (eName 8) (aNil))) (eC (.int 2)))) (tNot' (tE (eN gAll (aCons (eComp [5] (iSeq (eName 8)) (gSet 5) (tYes') (eAnd (e1 (gIsi isTupD) (eName 5)) (e2 (gEqv false) (eN gLen (aCons (eName 5) (aNil))) (eC (.int 2))))) (aNil))))))) (sCons (sRet (eC (.bl false))) (sNil)) (sNil)) (sCons (sIf (tNot' (tE (eCall 5 F_law_is_bound (aCons (eName 0) (aCons (eName 2) (aCons (e2 gIx (e2 gIx (eName 1) (eName 7)) (eC (.int 0))) (aCons (e2 gIx (e2 gIx (eName 8) (eC (.int 0))) (eC (.int 0))) (aCons (e2 gIx (e2 gIx (eName 8) (eC (.int 0))) (eC (.int 1))) (aNil))))))))) (sCons (sRet (eC (.bl false))) (sNil)) (sNil)) (sCons (sIf (tNot' (tE (eCall 5 F_law_is_bound (aCons (eName 0) (aCons (e2 gIx (e2 gIx (eName 1) (eName 7)) (eC (.int 0))) (aCons (eName 2) (aCons (e2 gIx (e2 gIx (eName 8) (eC (.int 1))) (eC (.int 0))) (aCons (e2 gIx (e2 gIx (eName 8) (eC (.int 1))) (eC (.int 1))) (aNil))))))))) (sCons (sRet (eC (.bl false))) (sNil)) (sNil)) (sCons (sSet 9 (eC .non)) (sCons (sSet 10 (eC .non)) (sCons (sIf (tBl (e1 gNotN (e2 gIx (e2 gIx (eName 8) (eC (.int 0))) (eC (.int 0))))) (sCons (sSet 9 (e2 (gI fun i j => i - j) (e2 gIx (e2 gIx (eName 1) (eName 7)) (eC (.int 1))) (e2 gIx (e2 gIx (eName 8) (eC (.int 0))) (eC (.int 0))))) (sNil)) (sNil)) (sCons (sIf (tBl (e1 gNotN (e2 gIx (e2 gIx (eName 8) (eC (.int 1))) (eC (.int 0))))) (sCons (sSet 10 (e2 gAdd (e2 gIx (e2 gIx (eName 1) (eName 7)) (eC (.int 1))) (e2 gIx (e2 gIx (eName 8) (eC (.int 1))) (eC (.int 0))))) (sNil)) (sNil)) (sCons (sSet 6 (eCall 3 F_law_next_limits (aCons (eName 6) (aCons (eName 9) (aCons (eName 10) (aNil)))))) (sNil))))))))))) (sCons (sRet (e2 (gEqv false) (eName 6) (eName 3))) (sNil)))))
def F_law_is_right : List D → Option D := runD 11 5 b_law_is_right
theorem k_law_is_right {P : Program} {w : World} {K : PySem.W.Frag} {mg : Str → Option Value} {base : Heap} (T : Gs K mg) (c_law_next_limits : DefOk P w K mg base "_law_next_limits" 2 3 F_law_next_limits) (c_law_is_bound : DefOk P w K mg base "_law_is_bound" 4 5 F_law_is_bound) (c_law_is_integer : DefOk P w K mg base "_law_is_integer" 1 1 F_law_is_integer) {f : Addr} {fd : FuncData} (F : Fun K "_law_is_right" "_law_is_right" s_law_is_right f fd) (gm : mg "_law_is_right" = some (.ref f)) : DefOk P w K mg base "_law_is_right" 5 5 F_law_is_right :=
  ⟨f, fd, ["_law_net_here", "_law_row_here", "_law_event", "_law_pair", "_law_value"], fn_pure F sc_law_is_right (by decide) (fun cdv A outer s H E hr => dss_cons (ds_if (dt_w (dw_or (dt_not (dt_e (de_isi kit_tuple (de_name 3) (by rfl) T.b_isinstance bt_isinstance (by rfl) T.b_tuple bt_tuple))) (dw_or (dt_c (dc_ne hr.units (de_callB call_len opn_len (by rfl) T.b_len bt_len (da_cons (de_name 3) (da_nil))) (de_int))) (dw_or1 (dt_not (dt_e (de_callB (cr_all rfl) opn_all (by rfl) T.b_all bt_all (da_cons (de_comp (own := [("_law_one", 5)]) rfl sc_law_is_right.nd (blkOk_by (by kernel_rfl)) (di_seq (de_name 3)) (fun _ _ _ _ _ => dgo_name 5 sc_law_is_right.nd (by decide)) (fun _ _ _ _ _ => dts_nil) (fun _ _ _ _ _ => de_or (de_isN (de_name 5)) (de_one (de_callD c_law_is_integer hr (da_cons (de_name 5) (da_nil)))))) (da_nil))))))))) (dss_cons (ds_ret (de_bl)) (dss_nil)) (dss_nil)) (dss_cons (ds_if (dt_w (dw_or (dt_not (dt_e (de_isi kit_tuple (de_name 4) (by rfl) T.b_isinstance bt_isinstance (by rfl) T.b_tuple bt_tuple))) (dw_or1 (dt_c (dc_ne hr.units (de_callB call_len opn_len (by rfl) T.b_len bt_len (da_cons (de_name 4) (da_nil))) (de_callB call_len opn_len (by rfl) T.b_len bt_len (da_cons (de_name 1) (da_nil)))))))) (dss_cons (ds_ret (de_bl)) (dss_nil)) (dss_nil)) (dss_cons (ds_set 6 sc_law_is_right.nd (de_tup (da_cons (de_non) (da_cons (de_non) (da_nil))))) (dss_cons (ds_for [5, 7, 8, 9, 10] PassesOwn.never rfl (di_range (by rfl) T.b_range (de_callB call_len opn_len (by rfl) T.b_len bt_len (da_cons (de_name 1) (da_nil)))) (dg_name 7 sc_law_is_right.nd) (dss_cons (ds_set 8 sc_law_is_right.nd (de_ix (de_name 4) (de_name 7))) (dss_cons (ds_if (dt_w (dw_or (dt_not (dt_e (de_isi kit_tuple (de_name 8) (by rfl) T.b_isinstance bt_isinstance (by rfl) T.b_tuple bt_tuple))) (dw_or (dt_c (dc_ne hr.units (de_callB call_len opn_len (by rfl) T.b_len bt_len (da_cons (de_name 8) (da_nil))) (de_int))) (dw_or1 (dt_not (dt_e (de_callB (cr_all rfl) opn_all (by rfl) T.b_all bt_all (da_cons (de_comp (own := [("_law_one", 5)]) rfl sc_law_is_right.nd (blkOk_by (by kernel_rfl)) (di_seq (de_name 8)) (fun _ _ _ _ _ => dgo_name 5 sc_law_is_right.nd (by decide)) (fun _ _ _ _ _ => dts_nil) (fun _ _ _ _ _ => de_and (de_isi kit_tuple (de_name 5) (by rfl) T.b_isinstance bt_isinstance (by rfl) T.b_tuple bt_tuple) (de_one (de_eq hr.units (de_callB call_len opn_len (by rfl) T.b_len bt_len (da_cons (de_name 5) (da_nil))) (de_int))))) (da_nil))))))))) (dss_cons (ds_ret (de_bl)) (dss_nil)) (dss_nil)) (dss_cons (ds_if (dt_not (dt_e (de_callD c_law_is_bound hr (da_cons (de_name 0) (da_cons (de_name 2) (da_cons (de_ix (de_ix (de_name 1) (de_name 7)) (de_int)) (da_cons (de_ix (de_ix (de_name 8) (de_int)) (de_int)) (da_cons (de_ix (de_ix (de_name 8) (de_int)) (de_int)) (da_nil))))))))) (dss_cons (ds_ret (de_bl)) (dss_nil)) (dss_nil)) (dss_cons (ds_if (dt_not (dt_e (de_callD c_law_is_bound hr (da_cons (de_name 0) (da_cons (de_ix (de_ix (de_name 1) (de_name 7)) (de_int)) (da_cons (de_name 2) (da_cons (de_ix (de_ix (de_name 8) (de_int)) (de_int)) (da_cons (de_ix (de_ix (de_name 8) (de_int)) (de_int)) (da_nil))))))))) (dss_cons (ds_ret (de_bl)) (dss_nil)) (dss_nil)) (dss_cons (ds_set 9 sc_law_is_right.nd (de_non)) (dss_cons (ds_set 10 sc_law_is_right.nd (de_non)) (dss_cons (ds_if (dt_c (dc_notN (de_ix (de_ix (de_name 8) (de_int)) (de_int)))) (dss_cons (ds_set 9 sc_law_is_right.nd (de_sub (de_ix (de_ix (de_name 1) (de_name 7)) (de_int)) (de_ix (de_ix (de_name 8) (de_int)) (de_int)))) (dss_nil)) (dss_nil)) (dss_cons (ds_if (dt_c (dc_notN (de_ix (de_ix (de_name 8) (de_int)) (de_int)))) (dss_cons (ds_set 10 sc_law_is_right.nd (de_add (de_ix (de_ix (de_name 1) (de_name 7)) (de_int)) (de_ix (de_ix (de_name 8) (de_int)) (de_int)))) (dss_nil)) (dss_nil)) (dss_cons (ds_set 6 sc_law_is_right.nd (de_callD c_law_next_limits hr (da_cons (de_name 6) (da_cons (de_name 9) (da_cons (de_name 10) (da_nil)))))) (dss_nil))))))))))) (dss_cons (ds_ret (de_eq hr.units (de_name 6) (de_name 3))) (dss_nil)))))), gm, F.kp, (F.binds fun _ _ _ _ _ _ us hl => match us, hl with | [_, _, _, _, _], _ => rfl)⟩

/-! ### _law_turned_bound -/
abbrev s_law_turned_bound : Stmt := topS 79
theorem sc_law_turned_bound : FnScope ["_law_stream_here", "_law_item", "_law_number", "_law_evidence", "_law_first", "_law_second", "_law_pick"] ["_law_stream_here", "_law_item"] (defScope s_law_turned_bound) := ⟨rfl, rfl, rfl, by decide +kernel, rfl, by decide +kernel, by decide +kernel⟩
def b_law_turned_bound : Fs := sCons (sAsg (eName 1) (gTupT 2 (gsCons (gSet 2) (gsCons (gSet 3) (gsNil))))) (sCons (sAsg (eName 3) (gTupT 2 (gsCons (gSet 4) (gsCons (gSet 5) (gsNil))))) (sCons (sSet 6 (eCallS 0 1 F_law_next (aCons (eC (.int 8)) (aNil)))) (sCons (sIf (tBl (e2 (gEqv false) (eName 6) (eC (.int 0)))) (sCons (sRet (e2 gIx (eN gLst (aCons (eC .non) (aCons (eN gTup (aCons (eName 2) (aNil))) (aCons (eN gLst (aCons (eName 2) (aCons (eName 3) (aNil)))) (aCons (eN gTup (aCons (eName 3) (aCons (eName 2) (aNil)))) (aCons (eN gTup (aCons (eName 2) (aCons (eC .non) (aNil)))) (aCons (eN gTup (aCons (eName 2) (aCons (eN gLst (aCons (eName 4) (aCons (eName 5) (aNil)))) (aNil)))) (aCons (eN gTup (aCons (eName 2) (aCons (eN gTup (aCons (eName 4) (aNil))) (aNil)))) (aNil))))))))) (eCallS 0 1 F_law_next (aCons (eC (.int 7)) (aNil))))) (sNil)) (sNil)) (sCons (sIf (tBl (e2 (gEqv false) (eName 6) (eC (.int 1)))) (sCons (sSet 2 (e2 gIx (eN gLst (aCons (eC (.int 0)) (aCons (eC .non) (aCons (eC (.int 5)) (aCons (e1 gNeg (eC (.int 5))) (aCons (eC (.bl true)) (aCons (eC (.str "0")) (aNil)))))))) (eCallS 0 1 F_law_next (aCons (eC (.int 6)) (aNil))))) (sNil)) (sCons (sIf (tAnd' (tBl (e1 gIsN (eName 2))) (tBl (e2 (gB fun i j => decide (i < j)) (eName 6) (eC (.int 5))))) (sCons (sSet 4 (eCallS 0 1 F_law_turned_heights (aCons (eName 4) (aNil)))) (sNil)) (sCons (sIf (tAnd' (tBl (e1 gIsN (eName 2))) (tBl (e2 (gB fun i j => decide (i < j)) (eName 6) (eC (.int 7))))) (sCons (sSet 5 (e2 gIx (eN gLst (aCons (eC .non) (aCons (eN gLstOf (aCons (eName 5) (aNil))) (aCons (eSl (eName 5) (oSome (eC (.int 1))) (oNone)) (aCons (eSl (eName 5) (oNone) (oSome (e1 gNeg (eC (.int 1))))) (aCons (e1 gRev (eName 5)) (aCons (eN gTup (aNil)) (aCons (e2 gAdd (eName 5) (eN gTup (aCons (eC (.int 9)) (aNil)))) (aCons (eN gTup (aCons (eC (.int 0)) (aNil))) (aCons (eN gTup (aCons (eC (.int 1)) (aNil))) (aNil))))))))))) (eCallS 0 1 F_law_next (aCons (eC (.int 9)) (aNil))))) (sNil)) (sCons (sIf (tBl (e2 (gB fun i j => decide (i < j)) (eName 6) (eC (.int 5)))) (sCons (sSet 4 (eCallS 0 1 F_law_turned_walk (aCons (eName 4) (aNil)))) (sNil)) (sCons (sIf (tBl (e2 (gB fun i j => decide (i < j)) (eName 6) (eC (.int 7)))) (sCons (sSet 5 (eCallS 0 1 F_law_turned_heights (aCons (eName 5) (aNil)))) (sNil)) (sNil)) (sNil))) (sNil))) (sNil))) (sNil))) (sCons (sRet (eN gTup (aCons (eName 2) (aCons (eN gTup (aCons (eName 4) (aCons (eName 5) (aNil)))) (aNil))))) (sNil))))))
def F_law_turned_bound : Strm → List D → Option (D × Strm) := runS 6 1 b_law_turned_bound
theorem k_law_turned_bound {P : Program} {w : World} {K : PySem.W.Frag} {mg : Str → Option Value} {base : Heap} (T : Gs K mg) (c_law_next : DefOkS P w K mg base "_law_next" 1 1 F_law_next) (c_law_turned_heights : DefOkS P w K mg base "_law_turned_heights" 2 1 F_law_turned_heights) (c_law_turned_walk : DefOkS P w K mg base "_law_turned_walk" 2 1 F_law_turned_walk) {f : Addr} {fd : FuncData} (F : Fun K "_law_turned_bound" "_law_turned_bound" s_law_turned_bound f fd) (gm : mg "_law_turned_bound" = some (.ref f)) : DefOkS P w K mg base "_law_turned_bound" 3 1 F_law_turned_bound :=
  ⟨f, fd, ["_law_stream_here", "_law_item"], fn_stream (n := 1) F sc_law_turned_bound rfl (by decide) (fun a cdv A outer s H E hr => dss_cons (ds_asg (de_name 1) (dg_tup rfl (dgs_cons (dg_name 2 sc_law_turned_bound.nd) (dgs_cons (dg_name 3 sc_law_turned_bound.nd) (dgs_nil))))) (dss_cons (ds_asg (de_name 3) (dg_tup rfl (dgs_cons (dg_name 4 sc_law_turned_bound.nd) (dgs_cons (dg_name 5 sc_law_turned_bound.nd) (dgs_nil))))) (dss_cons (ds_set 6 sc_law_turned_bound.nd (de_callDS 0 c_law_next hr (da_cons (de_int) (da_nil)))) (dss_cons (ds_if (dt_c (dc_eq hr.units (de_name 6) (de_int))) (dss_cons (ds_ret (de_ix (de_lst (da_cons (de_non) (da_cons (de_tup (da_cons (de_name 2) (da_nil))) (da_cons (de_lst (da_cons (de_name 2) (da_cons (de_name 3) (da_nil)))) (da_cons (de_tup (da_cons (de_name 3) (da_cons (de_name 2) (da_nil)))) (da_cons (de_tup (da_cons (de_name 2) (da_cons (de_non) (da_nil)))) (da_cons (de_tup (da_cons (de_name 2) (da_cons (de_lst (da_cons (de_name 4) (da_cons (de_name 5) (da_nil)))) (da_nil)))) (da_cons (de_tup (da_cons (de_name 2) (da_cons (de_tup (da_cons (de_name 4) (da_nil))) (da_nil)))) (da_nil))))))))) (de_callDS 0 c_law_next hr (da_cons (de_int) (da_nil))))) (dss_nil)) (dss_nil)) (dss_cons (ds_if (dt_c (dc_eq hr.units (de_name 6) (de_int))) (dss_cons (ds_set 2 sc_law_turned_bound.nd (de_ix (de_lst (da_cons (de_int) (da_cons (de_non) (da_cons (de_int) (da_cons (de_neg (de_int)) (da_cons (de_bl) (da_cons (de_str) (da_nil)))))))) (de_callDS 0 c_law_next hr (da_cons (de_int) (da_nil))))) (dss_nil)) (dss_cons (ds_if (dt_w (dw_and (dt_c (dc_isN (de_name 2))) (dw_and1 (dt_c (dc_lt (de_name 6) (de_int)))))) (dss_cons (ds_set 4 sc_law_turned_bound.nd (de_callDS 0 c_law_turned_heights hr (da_cons (de_name 4) (da_nil)))) (dss_nil)) (dss_cons (ds_if (dt_w (dw_and (dt_c (dc_isN (de_name 2))) (dw_and1 (dt_c (dc_lt (de_name 6) (de_int)))))) (dss_cons (ds_set 5 sc_law_turned_bound.nd (de_ix (de_lst (da_cons (de_non) (da_cons (de_callTy call_list_of opn_lstOf (by rfl) T.b_list bt_list (da_cons (de_name 5) (da_nil))) (da_cons (de_slice (de_name 5) (do_some (de_int)) (do_none)) (da_cons (de_slice (de_name 5) (do_none) (do_some (de_neg (de_int)))) (da_cons (de_rev (de_name 5)) (da_cons (de_tup (da_nil)) (da_cons (de_add (de_name 5) (de_tup (da_cons (de_int) (da_nil)))) (da_cons (de_tup (da_cons (de_int) (da_nil))) (da_cons (de_tup (da_cons (de_int) (da_nil))) (da_nil))))))))))) (de_callDS 0 c_law_next hr (da_cons (de_int) (da_nil))))) (dss_nil)) (dss_cons (ds_if (dt_c (dc_lt (de_name 6) (de_int))) (dss_cons (ds_set 4 sc_law_turned_bound.nd (de_callDS 0 c_law_turned_walk hr (da_cons (de_name 4) (da_nil)))) (dss_nil)) (dss_cons (ds_if (dt_c (dc_lt (de_name 6) (de_int))) (dss_cons (ds_set 5 sc_law_turned_bound.nd (de_callDS 0 c_law_turned_heights hr (da_cons (de_name 5) (da_nil)))) (dss_nil)) (dss_nil)) (dss_nil))) (dss_nil))) (dss_nil))) (dss_nil))) (dss_cons (ds_ret (de_tup (da_cons (de_name 2) (da_cons (de_tup (da_cons (de_name 4) (da_cons (de_name 5) (da_nil)))) (da_nil))))) (dss_nil))))))), gm, F.kp, (F.binds fun _ _ _ _ _ _ us hl => match us, hl with | [_, _], _ => rfl)⟩

/-! ### _law_turned -/
abbrev s_law_turned : Stmt := topS 80
theorem sc_law_turned : FnScope ["_law_stream_here", "_law_value", "_law_pick", "_law_at", "_law_before", "_law_after", "_law_item"] ["_law_stream_here", "_law_value"] (defScope s_law_turned) := ⟨rfl, rfl, rfl, by decide +kernel, rfl, by decide +kernel, by decide +kernel⟩
def b_law_turned : Fs := sCons (sSet 2 (eCallS 0 1 F_law_next (aCons (eC (.int 6)) (aNil)))) (sCons (sIf (tOr' (tBl (e2 (gEqv false) (eName 2) (eC (.int 0)))) (tNot' (tE (eName 1)))) (sCons (sRet (e2 gIx (eN gLst (aCons (eC .non) (aCons (eN gLstOf (aCons (eName 1) (aNil))) (aCons (e2 gAdd (eName 1) (eN gTup (aCons (eN gTup (aNil)) (aNil)))) (aCons (eSl (eName 1) (oSome (eC (.int 1))) (oNone)) (aCons (e2 gAdd (eName 1) (eName 1)) (aCons (e1 gRev (eName 1)) (aNil)))))))) (eCallS 0 1 F_law_next (aCons (eC (.int 6)) (aNil))))) (sNil)) (sNil)) (sCons (sSet 3 (e2 gIx (eN gLst (aCons (eC (.int 0)) (aCons (e2 (gIC cDiv fun i j => i / j) (eN gLen (aCons (eName 1) (aNil))) (eC (.int 2))) (aCons (e2 (gI fun i j => i - j) (eN gLen (aCons (eName 1) (aNil))) (eC (.int 1))) (aNil))))) (eCallS 0 1 F_law_next (aCons (eC (.int 3)) (aNil))))) (sCons (sAsg (e2 gIx (eName 1) (eName 3)) (gTupT 2 (gsCons (gSet 4) (gsCons (gSet 5) (gsNil))))) (sCons (sIf (tBl (e2 (gEqv false) (eName 2) (eC (.int 1)))) (sCons (sSet 6 (e2 gIx (eN gLst (aCons (eC .non) (aCons (eN gTup (aCons (eName 4) (aNil))) (aCons (eN gLst (aCons (eName 4) (aCons (eName 5) (aNil)))) (aCons (eN gTup (aCons (eName 5) (aCons (eName 4) (aNil)))) (aCons (eN gTup (aCons (eName 4) (aCons (eName 5) (aCons (eC (.int 0)) (aNil))))) (aCons (eN gTup (aCons (eName 4) (aCons (eC .non) (aNil)))) (aNil)))))))) (eCallS 0 1 F_law_next (aCons (eC (.int 6)) (aNil))))) (sNil)) (sCons (sIf (tBl (e2 (gB fun i j => decide (i < j)) (eName 2) (eC (.int 4)))) (sCons (sSet 6 (eN gTup (aCons (eCallS 0 1 F_law_turned_bound (aCons (eName 4) (aNil))) (aCons (eName 5) (aNil))))) (sNil)) (sCons (sSet 6 (eN gTup (aCons (eName 4) (aCons (eCallS 0 1 F_law_turned_bound (aCons (eName 5) (aNil))) (aNil))))) (sNil))) (sNil))) (sCons (sRet (e2 gAdd (e2 gAdd (eSl (eName 1) (oNone) (oSome (eName 3))) (eN gTup (aCons (eName 6) (aNil)))) (eSl (eName 1) (oSome (e2 gAdd (eName 3) (eC (.int 1)))) (oNone)))) (sNil))))))
def F_law_turned : Strm → List D → Option (D × Strm) := runS 6 1 b_law_turned
theorem k_law_turned {P : Program} {w : World} {K : PySem.W.Frag} {mg : Str → Option Value} {base : Heap} (T : Gs K mg) (c_law_next : DefOkS P w K mg base "_law_next" 1 1 F_law_next) (c_law_turned_bound : DefOkS P w K mg base "_law_turned_bound" 3 1 F_law_turned_bound) {f : Addr} {fd : FuncData} (F : Fun K "_law_turned" "_law_turned" s_law_turned f fd) (gm : mg "_law_turned" = some (.ref f)) : DefOkS P w K mg base "_law_turned" 4 1 F_law_turned :=
  ⟨f, fd, ["_law_stream_here", "_law_value"], fn_stream (n := 1) F sc_law_turned rfl (by decide) (fun a cdv A outer s H E hr => dss_cons (ds_set 2 sc_law_turned.nd (de_callDS 0 c_law_next hr (da_cons (de_int) (da_nil)))) (dss_cons (ds_if (dt_w (dw_or (dt_c (dc_eq hr.units (de_name 2) (de_int))) (dw_or1 (dt_not (dt_e (de_name 1)))))) (dss_cons (ds_ret (de_ix (de_lst (da_cons (de_non) (da_cons (de_callTy call_list_of opn_lstOf (by rfl) T.b_list bt_list (da_cons (de_name 1) (da_nil))) (da_cons (de_add (de_name 1) (de_tup (da_cons (de_tup (da_nil)) (da_nil)))) (da_cons (de_slice (de_name 1) (do_some (de_int)) (do_none)) (da_cons (de_add (de_name 1) (de_name 1)) (da_cons (de_rev (de_name 1)) (da_nil)))))))) (de_callDS 0 c_law_next hr (da_cons (de_int) (da_nil))))) (dss_nil)) (dss_nil)) (dss_cons (ds_set 3 sc_law_turned.nd (de_ix (de_lst (da_cons (de_int) (da_cons (de_fdiv (de_callB call_len opn_len (by rfl) T.b_len bt_len (da_cons (de_name 1) (da_nil))) (de_int)) (da_cons (de_sub (de_callB call_len opn_len (by rfl) T.b_len bt_len (da_cons (de_name 1) (da_nil))) (de_int)) (da_nil))))) (de_callDS 0 c_law_next hr (da_cons (de_int) (da_nil))))) (dss_cons (ds_asg (de_ix (de_name 1) (de_name 3)) (dg_tup rfl (dgs_cons (dg_name 4 sc_law_turned.nd) (dgs_cons (dg_name 5 sc_law_turned.nd) (dgs_nil))))) (dss_cons (ds_if (dt_c (dc_eq hr.units (de_name 2) (de_int))) (dss_cons (ds_set 6 sc_law_turned.nd (de_ix (de_lst (da_cons (de_non) (da_cons (de_tup (da_cons (de_name 4) (da_nil))) (da_cons (de_lst (da_cons (de_name 4) (da_cons (de_name 5) (da_nil)))) (da_cons (de_tup (da_cons (de_name 5) (da_cons (de_name 4) (da_nil)))) (da_cons (de_tup (da_cons (de_name 4) (da_cons (de_name 5) (da_cons (de_int) (da_nil))))) (da_cons (de_tup (da_cons (de_name 4) (da_cons (de_non) (da_nil)))) (da_nil)))))))) (de_callDS 0 c_law_next hr (da_cons (de_int) (da_nil))))) (dss_nil)) (dss_cons (ds_if (dt_c (dc_lt (de_name 2) (de_int))) (dss_cons (ds_set 6 sc_law_turned.nd (de_tup (da_cons (de_callDS 0 c_law_turned_bound hr (da_cons (de_name 4) (da_nil))) (da_cons (de_name 5) (da_nil))))) (dss_nil)) (dss_cons (ds_set 6 sc_law_turned.nd (de_tup (da_cons (de_name 4) (da_cons (de_callDS 0 c_law_turned_bound hr (da_cons (de_name 5) (da_nil))) (da_nil))))) (dss_nil))) (dss_nil))) (dss_cons (ds_ret (de_add (de_add (de_slice (de_name 1) (do_none) (do_some (de_name 3))) (de_tup (da_cons (de_name 6) (da_nil)))) (de_slice (de_name 1) (do_some (de_add (de_name 3) (de_int))) (do_none)))) (dss_nil))))))), gm, F.kp, (F.binds fun _ _ _ _ _ _ us hl => match us, hl with | [_, _], _ => rfl)⟩

/-! ### law -/
abbrev s_law : Stmt := topS 81
theorem sc_law : FnScope ["_law_script", "_law_stream_here", "_law_net_here", "_law_first", "_law_second", "_law_row_here", "_law_event", "_law_due", "_law_bounds_here", "_law_told", "_law_k", "_law_numbers", "_law_least", "_law_greatest", "_law_odd", "_law_turn", "_law_value", "_law_pair", "_law_answer"] ["_law_script"] (defScope s_law) := ⟨rfl, rfl, rfl, by decide +kernel, rfl, by decide +kernel, by decide +kernel⟩
def b_law : Fs := sCons (sAsg (eCallS 1 4 F_law_net (aCons (eC (.int 1)) (aCons (eC (.int 4)) (aCons (eC (.int 6)) (aCons (eC (.int 9)) (aNil)))))) (gTupT 3 (gsCons (gSet 2) (gsCons (gSet 3) (gsCons (gSet 4) (gsNil)))))) (sCons (sSet 5 (eCallS 1 3 F_law_row (aCons (e2 gIx (eName 2) (eC (.int 0))) (aCons (eC (.int 3)) (aCons (eC (.int 20)) (aNil)))))) (sCons (sSet 6 (eCallS 1 1 F_law_next (aCons (e2 gIx (eName 2) (eC (.int 0))) (aNil)))) (sCons (sSet 7 (e2 gIx (eCall 2 F_limits (aCons (eName 2) (aCons (eName 5) (aNil)))) (eName 6))) (sCons (sSet 8 (eCall 1 F_law_bounds (aCons (eName 2) (aNil)))) (sCons (sSet 9 (eCall 3 F_limit_evidence (aCons (eName 2) (aCons (eName 5) (aCons (eName 6) (aNil)))))) (sCons (sIf (tOr' (tNot' (tE (eCall 5 F_law_is_right (aCons (eName 2) (aCons (eName 5) (aCons (eName 6) (aCons (eName 7) (aCons (eName 9) (aNil))))))))) (tBl (e2 (gIsB true) (eCall 5 F_accepts_limits (aCons (eName 2) (aCons (eName 5) (aCons (eName 6) (aCons (eName 7) (aCons (eName 9) (aNil))))))) (eC (.bl true))))) (sCons (sRet (eC (.bl false))) (sNil)) (sNil)) (sCons (sFor [10, 11] (iRange (eN gLen (aCons (eName 5) (aNil)))) (gSet 10) (sCons (sSet 11 (eN gTup (aCons (eGet 8 (eN gTup (aCons (eName 6) (aCons (e2 gIx (e2 gIx (eName 5) (eName 10)) (eC (.int 0))) (aNil))))) (aCons (eGet 8 (eN gTup (aCons (e2 gIx (e2 gIx (eName 5) (eName 10)) (eC (.int 0))) (aCons (eName 6) (aNil))))) (aNil))))) (sCons (sIf (tNot' (tE (eCall 2 F_law_equal (aCons (eN gTup (aCons (e2 gIx (e2 gIx (e2 gIx (eName 9) (eName 10)) (eC (.int 0))) (eC (.int 0))) (aCons (e2 gIx (e2 gIx (e2 gIx (eName 9) (eName 10)) (eC (.int 1))) (eC (.int 0))) (aNil)))) (aCons (eName 11) (aNil)))))) (sCons (sRet (eC (.bl false))) (sNil)) (sNil)) (sNil)))) (sCons (sAsg (eName 7) (gTupT 2 (gsCons (gSet 12) (gsCons (gSet 13) (gsNil))))) (sCons (sSet 14 (eN gLst (aCons (eC .non) (aCons (eN gTup (aCons (eName 12) (aNil))) (aCons (eN gLst (aCons (eName 12) (aCons (eName 13) (aNil)))) (aCons (eN gTup (aCons (eName 13) (aCons (eName 12) (aNil)))) (aCons (eN gTup (aCons (eName 12) (aCons (eC (.int 0)) (aNil)))) (aCons (eN gTup (aCons (eC (.int 0)) (aCons (eName 13) (aNil)))) (aCons (eN gTup (aCons (eC (.bl true)) (aCons (eName 13) (aNil)))) (aCons (eN gTup (aCons (eName 12) (aCons (eC (.str "0")) (aNil)))) (aCons (eN gTup (aCons (eC .non) (aCons (eC .non) (aNil)))) (aCons (eName 7) (aNil))))))))))))) (sCons (sFor [15, 16, 17, 18] (iRange (eC (.int 5))) (gSet 15) (sCons (sSet 16 (eCallS 1 1 F_law_turned (aCons (eName 9) (aNil)))) (sCons (sSet 17 (e2 gIx (eN gLst (aCons (eName 7) (aCons (eName 7) (aCons (e2 gIx (eName 14) (eCallS 1 1 F_law_next (aCons (eC (.int 10)) (aNil)))) (aNil))))) (eCallS 1 1 F_law_next (aCons (eC (.int 3)) (aNil))))) (sCons (sSet 18 (eCall 5 F_accepts_limits (aCons (eName 2) (aCons (eName 5) (aCons (eName 6) (aCons (eName 17) (aCons (eName 16) (aNil)))))))) (sCons (sIf (tOr' (tNot' (tE (eCall 2 F_law_equal (aCons (eName 18) (aCons (eCall 5 F_law_is_right (aCons (eName 2) (aCons (eName 5) (aCons (eName 6) (aCons (eName 17) (aCons (eName 16) (aNil))))))) (aNil)))))) (tAnd' (tE (eName 18)) (tBl (e2 (gEqv true) (eName 17) (eName 7))))) (sCons (sRet (eC (.bl false))) (sNil)) (sNil)) (sNil)))))) (sCons (sRet (e2 (gIsB false) (eCall 5 F_accepts_limits (aCons (eName 2) (aCons (eName 5) (aCons (eName 6) (aCons (eN gTup (aCons (eName 12) (aCons (eC (.int 77777)) (aNil)))) (aCons (eName 9) (aNil))))))) (eC (.bl false)))) (sNil))))))))))))
theorem d_law {P : Program} {w : World} {K : PySem.W.Frag} {mg : Str → Option Value} {base : Heap} (T : Gs K mg) (c_accepts_limits : DefOk P w K mg base "accepts_limits" 8 5 F_accepts_limits) (c_law_equal : DefOk P w K mg base "_law_equal" 3 2 F_law_equal) (c_law_is_right : DefOk P w K mg base "_law_is_right" 5 5 F_law_is_right) (c_law_next : DefOkS P w K mg base "_law_next" 1 1 F_law_next) (c_law_turned : DefOkS P w K mg base "_law_turned" 4 1 F_law_turned) (c_limit_evidence : DefOk P w K mg base "limit_evidence" 8 3 F_limit_evidence) (c_law_bounds : DefOk P w K mg base "_law_bounds" 2 1 F_law_bounds) (c_limits : DefOk P w K mg base "limits" 6 2 F_limits) (c_law_row : DefOkS P w K mg base "_law_row" 2 3 F_law_row) (c_law_net : DefOkS P w K mg base "_law_net" 3 4 F_law_net) {a f : Addr} {cdv : Value} {A : Around} {outer : List Env} {s : Shared} {H : Hp} {E : XK} (hr : Room 8 (A.deeper (envOfC "law" (defScope s_law) s.heap.objs.size f cdv))) :
    DSs (CxD P w K mg base ["_law_script", "_law_stream_here", "_law_net_here", "_law_first", "_law_second", "_law_row_here", "_law_event", "_law_due", "_law_bounds_here", "_law_told", "_law_k", "_law_numbers", "_law_least", "_law_greatest", "_law_odd", "_law_turn", "_law_value", "_law_pair", "_law_answer"] "law" s_law f cdv A outer s H E) (some a) ((defBody s_law).drop 1) b_law :=
  dss_cons (ds_asg (de_callDS 1 c_law_net hr (da_cons (de_int) (da_cons (de_int) (da_cons (de_int) (da_cons (de_int) (da_nil)))))) (dg_tup rfl (dgs_cons (dg_name 2 sc_law.nd) (dgs_cons (dg_name 3 sc_law.nd) (dgs_cons (dg_name 4 sc_law.nd) (dgs_nil)))))) (dss_cons (ds_set 5 sc_law.nd (de_callDS 1 c_law_row hr (da_cons (de_ix (de_name 2) (de_int)) (da_cons (de_int) (da_cons (de_int) (da_nil)))))) (dss_cons (ds_set 6 sc_law.nd (de_callDS 1 c_law_next hr (da_cons (de_ix (de_name 2) (de_int)) (da_nil)))) (dss_cons (ds_set 7 sc_law.nd (de_ix (de_callD c_limits hr (da_cons (de_name 2) (da_cons (de_name 5) (da_nil)))) (de_name 6))) (dss_cons (ds_set 8 sc_law.nd (de_callD c_law_bounds hr (da_cons (de_name 2) (da_nil)))) (dss_cons (ds_set 9 sc_law.nd (de_callD c_limit_evidence hr (da_cons (de_name 2) (da_cons (de_name 5) (da_cons (de_name 6) (da_nil)))))) (dss_cons (ds_if (dt_w (dw_or (dt_not (dt_e (de_callD c_law_is_right hr (da_cons (de_name 2) (da_cons (de_name 5) (da_cons (de_name 6) (da_cons (de_name 7) (da_cons (de_name 9) (da_nil))))))))) (dw_or1 (dt_c (dc_notB (de_callD c_accepts_limits hr (da_cons (de_name 2) (da_cons (de_name 5) (da_cons (de_name 6) (da_cons (de_name 7) (da_cons (de_name 9) (da_nil))))))) (de_bl)))))) (dss_cons (ds_ret (de_bl)) (dss_nil)) (dss_nil)) (dss_cons (ds_for [10, 11] PassesOwn.never rfl (di_range (by rfl) T.b_range (de_callB call_len opn_len (by rfl) T.b_len bt_len (da_cons (de_name 5) (da_nil)))) (dg_name 10 sc_law.nd) (dss_cons (ds_set 11 sc_law.nd (de_tup (da_cons (de_get 8 (hu_of hr) (de_tup (da_cons (de_name 6) (da_cons (de_ix (de_ix (de_name 5) (de_name 10)) (de_int)) (da_nil))))) (da_cons (de_get 8 (hu_of hr) (de_tup (da_cons (de_ix (de_ix (de_name 5) (de_name 10)) (de_int)) (da_cons (de_name 6) (da_nil))))) (da_nil))))) (dss_cons (ds_if (dt_not (dt_e (de_callD c_law_equal hr (da_cons (de_tup (da_cons (de_ix (de_ix (de_ix (de_name 9) (de_name 10)) (de_int)) (de_int)) (da_cons (de_ix (de_ix (de_ix (de_name 9) (de_name 10)) (de_int)) (de_int)) (da_nil)))) (da_cons (de_name 11) (da_nil)))))) (dss_cons (ds_ret (de_bl)) (dss_nil)) (dss_nil)) (dss_nil)))) (dss_cons (ds_asg (de_name 7) (dg_tup rfl (dgs_cons (dg_name 12 sc_law.nd) (dgs_cons (dg_name 13 sc_law.nd) (dgs_nil))))) (dss_cons (ds_set 14 sc_law.nd (de_lst (da_cons (de_non) (da_cons (de_tup (da_cons (de_name 12) (da_nil))) (da_cons (de_lst (da_cons (de_name 12) (da_cons (de_name 13) (da_nil)))) (da_cons (de_tup (da_cons (de_name 13) (da_cons (de_name 12) (da_nil)))) (da_cons (de_tup (da_cons (de_name 12) (da_cons (de_int) (da_nil)))) (da_cons (de_tup (da_cons (de_int) (da_cons (de_name 13) (da_nil)))) (da_cons (de_tup (da_cons (de_bl) (da_cons (de_name 13) (da_nil)))) (da_cons (de_tup (da_cons (de_name 12) (da_cons (de_str) (da_nil)))) (da_cons (de_tup (da_cons (de_non) (da_cons (de_non) (da_nil)))) (da_cons (de_name 7) (da_nil))))))))))))) (dss_cons (ds_for [15, 16, 17, 18] PassesOwn.never rfl (di_range (by rfl) T.b_range (de_int)) (dg_name 15 sc_law.nd) (dss_cons (ds_set 16 sc_law.nd (de_callDS 1 c_law_turned hr (da_cons (de_name 9) (da_nil)))) (dss_cons (ds_set 17 sc_law.nd (de_ix (de_lst (da_cons (de_name 7) (da_cons (de_name 7) (da_cons (de_ix (de_name 14) (de_callDS 1 c_law_next hr (da_cons (de_int) (da_nil)))) (da_nil))))) (de_callDS 1 c_law_next hr (da_cons (de_int) (da_nil))))) (dss_cons (ds_set 18 sc_law.nd (de_callD c_accepts_limits hr (da_cons (de_name 2) (da_cons (de_name 5) (da_cons (de_name 6) (da_cons (de_name 17) (da_cons (de_name 16) (da_nil)))))))) (dss_cons (ds_if (dt_w (dw_or (dt_not (dt_e (de_callD c_law_equal hr (da_cons (de_name 18) (da_cons (de_callD c_law_is_right hr (da_cons (de_name 2) (da_cons (de_name 5) (da_cons (de_name 6) (da_cons (de_name 17) (da_cons (de_name 16) (da_nil))))))) (da_nil)))))) (dw_or1 (dt_w (dw_and (dt_e (de_name 18)) (dw_and1 (dt_c (dc_ne hr.units (de_name 17) (de_name 7))))))))) (dss_cons (ds_ret (de_bl)) (dss_nil)) (dss_nil)) (dss_nil)))))) (dss_cons (ds_ret (de_isB (de_callD c_accepts_limits hr (da_cons (de_name 2) (da_cons (de_name 5) (da_cons (de_name 6) (da_cons (de_tup (da_cons (de_name 12) (da_cons (de_int) (da_nil)))) (da_cons (de_name 9) (da_nil))))))) (de_bl))) (dss_nil))))))))))))
end Kx
set_option Elab.async false
set_option linter.all false
set_option maxRecDepth 100000
set_option maxHeartbeats 4000000
/-! the stream's making; the law's own body -/
namespace Kx
open PySem PySem.Spec PyProof.Rows L2

/-! ### _law_stream -/
abbrev s_law_stream : Stmt := topS 60
theorem sc_law_stream : FnScope ["_law_script"] ["_law_script"] (defScope s_law_stream) := ⟨rfl, rfl, rfl, by decide +kernel, rfl, by decide +kernel, by decide +kernel⟩
def spStream (K : PySem.W.Frag) : Sp := fun vs H Q _ => ∃ (a : Addr) (ns : List Int), vs = [.ref a] ∧ SqL K H a (ns.map V.int) ∧ ns.length ≤ 63 ∧
  ∀ H' p b, H' p = some (.lst [.ref b, .int 0, .int 0]) → H' b = some (.lst (ns.map V.int)) → p ≠ b → Q (.ref p) H'
section
variable {P : Program} {w : World} {K : PySem.W.Frag} {mg : Str → Option Value} {base : Heap}
theorem k_law_stream (T : Gs K mg) {f : Addr} {fd : FuncData} (F : Fun K "_law_stream" "_law_stream" s_law_stream f fd) : FnOk P w K mg base CX0 1 f fd ["_law_script"] (spStream K) := by
  refine F.ok sc_law_stream (fun vs H Q E h => ?_) (fun cdv A outer s H vs Q E hr h => ?_)
  · obtain ⟨a, ns, rfl, _⟩ := h
    rfl
  · obtain ⟨a, ns, rfl, hS, hl, q⟩ := h
    refine ⟨_, pss_one (ps_ret (pe_lst (pa_cons (pe_callTy call_list_of (by rfl) T.b_list bt_list (pa_cons (pv 0) pa_nil)) (pa_cons pe_int (pa_cons pe_int pa_nil))))), ?_⟩
    refine ⟨.ref a, rfl, a, ns.map V.int, rfl, .inl hS, fun b hb => ?_⟩
    refine ⟨by show 3 ≤ sizeLine; decide, fun p hp => ?_⟩
    have ne : b ≠ p := fun e => by
      rw [← e, upd_same] at hp
      cases hp
    exact q _ p b upd_same (by rw [upd_ne ne, upd_same]) (Ne.symm ne)
/-- the law at the script: what its body says of data is all that is left -/
def spLaw (K : PySem.W.Frag) : Sp := fun vs H Q _ => ∃ (a : Addr) (ns : List Int), vs = [.ref a] ∧ SqL K H a (ns.map V.int) ∧ ns.length ≤ 63 ∧ ∀ H', Q (.bl true) H'
def lawStart (ns : List Int) : Rho := none :: some (.st ⟨ns, 0, 0⟩) :: List.replicate 17 none
def LawTrue : Prop := ∀ ns : List Int, ns.length ≤ 63 → ∃ ρ, b_law (lawStart ns) = some (.rt (.bl true) ρ)
theorem k_law (pure : LawTrue) (T : Gs K mg) (c_accepts_limits : DefOk P w K mg base "accepts_limits" 8 5 F_accepts_limits) (c_law_equal : DefOk P w K mg base "_law_equal" 3 2 F_law_equal) (c_law_is_right : DefOk P w K mg base "_law_is_right" 5 5 F_law_is_right)
    (c_law_next : DefOkS P w K mg base "_law_next" 1 1 F_law_next) (c_law_turned : DefOkS P w K mg base "_law_turned" 4 1 F_law_turned) (c_limit_evidence : DefOk P w K mg base "limit_evidence" 8 3 F_limit_evidence) (c_law_bounds : DefOk P w K mg base "_law_bounds" 2 1 F_law_bounds)
    (c_limits : DefOk P w K mg base "limits" 6 2 F_limits) (c_law_row : DefOkS P w K mg base "_law_row" 2 3 F_law_row) (c_law_net : DefOkS P w K mg base "_law_net" 3 4 F_law_net)
    {f fS : Addr} {fd fdS : FuncData} (F : Fun K "law" "law" s_law f fd) (FS : Fun K "_law_stream" "_law_stream" s_law_stream fS fdS) (gS : mg "_law_stream" = some (.ref fS)) : FnOk P w K mg base CX0 9 f fd ["_law_script"] (spLaw K) := by
  have GS : FnOk P w K mg base CX0 1 fS fdS ["_law_script"] (spStream K) := k_law_stream T FS
  have bS : Binds K fdS ["_law_script"] [] := FS.binds fun _ _ _ _ _ _ us hl => match us, hl with | [_], _ => rfl
  refine F.ok sc_law (fun vs H Q E h => ?_) (fun cdv A outer s H vs Q E hr h => ?_)
  · obtain ⟨a, ns, rfl, _⟩ := h
    rfl
  · obtain ⟨a, ns, rfl, hS, hl, q⟩ := h
    refine ⟨_, pss_cons (ps_set (i := 1) sc_law.nd rfl (.inl rfl) (pe_call GS (hr.mono (by decide)) (by rfl) gS FS.kp bS .nil pass0 (pa_cons (pv 0) pa_nil))) (pss_w (ss := (defBody s_law).drop 1)), ?_⟩
    refine ⟨.ref a, rfl, a, ns, rfl, hS, hl, fun H1 p b hp hb ne => ?_⟩
    obtain ⟨ρ, e⟩ := pure ns hl
    let F0 : Hp := fun c => if c = b then some (.lst (ns.map V.int)) else none
    have F0b : F0 b = some (.lst (ns.map V.int)) := if_pos rfl
    have F0n : ∀ {c u}, F0 c = some u → c = b ∧ u = .lst (ns.map V.int) := fun {c u} z => by
      by_cases hc : c = b
      · rw [hc, F0b] at z
        exact ⟨hc, (Option.some.inj z).symm⟩
      · rw [show F0 c = none from if_neg hc] at z
        cases z
    have rpi : ∀ ms : List Int, RpA F0 (ms.map V.int) (ms.map D.int) := fun ms => by
      induction ms with
      | nil => exact .nil
      | cons m ms ih => exact .cons (.int m) ih
    have R0 : Rs (some p) (fun _ => False) (fun _ => none) F0 (lawStart ns) ((start ["_law_script", "_law_stream_here", "_law_net_here", "_law_first", "_law_second", "_law_row_here", "_law_event", "_law_due", "_law_bounds_here", "_law_told", "_law_k", "_law_numbers", "_law_least", "_law_greatest", "_law_odd", "_law_turn", "_law_value", "_law_pair", "_law_answer"] [.ref a]).set 1 (some (.ref p))) H1 := by
      have one : ∀ (i : Nat) (t : Sl), (lawStart ns)[i]? = some (some t) → i = 1 ∧ t = .st ⟨ns, 0, 0⟩ := fun i t z => by
        match i, z with
        | 0, z => cases z
        | 1, z => cases z; exact ⟨rfl, rfl⟩
        | i + 2, z =>
          have z' : (List.replicate 17 (none : Option Sl))[i]? = some (some t) := z
          have m := List.mem_of_getElem? z'
          rw [List.mem_replicate] at m
          cases m.2
      refine ⟨rfl, fun c o z => (nomatch z), ⟨fun c u z => ?_, fun c xs z => ?_⟩, fun c z => z.elim, fun c z => z.elim, fun i t z => ?_, fun i t c z o => ?_, fun i j t t' c z _ o => ?_, fun c z => ?_, fun c z => z.elim, fun c z xs y => ?_⟩
      · obtain ⟨rfl, rfl⟩ := F0n z
        exact .inl hb
      · obtain ⟨_, y⟩ := F0n z
        cases y
      · obtain ⟨rfl, rfl⟩ := one i t z
        exact ⟨.ref p, rfl, p, b, rfl, rfl, hp, .lst F0b (by rw [List.length_map]; exact line_of (by omega)) (rpi ns)⟩
      · obtain ⟨rfl, rfl⟩ := one i t z
        cases o
      · obtain ⟨rfl, rfl⟩ := one i t z
        cases o
      · cases z
        exact ⟨rfl, if_neg ne, _, hp⟩
      · cases z
        rw [hp] at y
        cases y
    refine d_law T c_accepts_limits c_law_equal c_law_is_right c_law_next c_law_turned c_limit_evidence c_law_bounds c_limits c_law_row c_law_net hr _ _ _ _ _ _ _ _ R0 e (fun ρ' eq => nomatch eq) fun d ρ' eq F' σ' H' v l R pv => ?_
    cases eq
    cases pv
    exact q H'
end
end Kx
set_option Elab.async false
set_option maxRecDepth 100000
set_option maxHeartbeats 0
open PySem PySem.W PyProof.Rows
open_top Kx.head for PySem.Challenge.rw_allbide_k37_whole_evidence_of_limits
set_option Elab.async false
set_option linter.all false
set_option maxRecDepth 100000
set_option maxHeartbeats 0
set_option pp.maxSteps 150
namespace Kx
open PySem PySem.Spec PyProof.Rows L2
/-- a def stands at the name x -/
def At (K : PySem.W.Frag) (mg : Str → Option Value) (x qual : Str) (st : Stmt) : Prop := ∃ (f : Addr) (fd : FuncData), mg x = some (.ref f) ∧ Fun K qual qual st f fd
section
variable {w : World} {K : PySem.W.Frag} {h : Heap} {mg : Str → Option Value}
theorem def_at {x qual : Str} {st : Stmt} (X : K.In h) (G : h.Ns mainGlobals mg) {f : Addr} {oc : Value} {od an : Option Addr} {osl : Array (Option Value)} {kV dc pm cd ct : Value} (a1 : PySem.W.nsIn K mainGlobals x = some (some (.ref f)))
    (l1 : K.lookup f = some ⟨oc, od, .func (PySem.W.fnOf qual qual (defArgs st) (defBody st) (defScope st) .none kV dc pm an cd ct), osl⟩) (c1 : PySem.W.codeIn K cd qual = true) (k1 : PySem.W.keepIn K (.ref f) = true) : At K mg x qual st :=
  ⟨f, _, PySem.W.mg_of X G a1, fun_mk l1 c1 k1⟩
theorem sides_at (X : K.In h) (G : h.Ns mainGlobals mg) {a : Addr} {od : Option Addr} {osl : Array (Option Value)} {n : Nat} {t u : Tok} (a1 : PySem.W.nsIn K mainGlobals "SIDES" = some (some (.ref a)))
    (l1 : K.lookup a = some ⟨.type "tuple", od, .seq #[.str "high" t, .str "low" u] n, osl⟩) : ∃ a, mg "SIDES" = some (.ref a) ∧ ∀ H, SqT K H a (([("high" : Str), ("low" : Str)] : List Str).map V.str) :=
  ⟨a, PySem.W.mg_of X G a1, fun H => .inr ⟨_, _, n, l1, rfl, rfl, by show 2 ≤ sizeLine; decide, .cons ⟨t, rfl⟩ (.cons ⟨u, rfl⟩ .nil)⟩⟩
theorem all_mk {P : Program} {fa : Addr} (pure : LawTrue) (T : Gs K mg) (a_is_between : At K mg "is_between" "is_between" s_is_between) (a_is_side : At K mg "is_side" "is_side" s_is_side) (a_is_rule : At K mg "is_rule" "is_rule" s_is_rule) (a_is_net : At K mg "is_net" "is_net" s_is_net) (a_excess_of : At K mg "excess_of" "excess_of" s_excess_of) (a_all_hold : At K mg "all_hold" "all_hold" s_all_hold) (a_edges_of : At K mg "edges_of" "edges_of" s_edges_of) (a_edge_of : At K mg "edge_of" "edge_of" s_edge_of) (a_walk_end : At K mg "walk_end" "walk_end" s_walk_end) (a_length_of : At K mg "length_of" "length_of" s_length_of) (a_is_integer : At K mg "is_integer" "is_integer" s_is_integer) (a_check_net : At K mg "check_net" "check_net" s_check_net) (a_longer_walks : At K mg "longer_walks" "longer_walks" s_longer_walks) (a_first_round : At K mg "first_round" "first_round" s_first_round) (a_with_walk : At K mg "with_walk" "with_walk" s_with_walk) (a_shortest_walks : At K mg "shortest_walks" "shortest_walks" s_shortest_walks) (a_bounds_of : At K mg "bounds_of" "bounds_of" s_bounds_of) (a_check_kept : At K mg "check_kept" "check_kept" s_check_kept) (a_heights_of : At K mg "heights_of" "heights_of" s_heights_of) (a_are_heights : At K mg "are_heights" "are_heights" s_are_heights) (a_are_right : At K mg "are_right" "are_right" s_are_right) (a_is_event_b : At K mg "is_event_bounds" "is_event" s_is_event_b) (a_check_two : At K mg "check_two" "check_two" s_check_two) (a_pulled : At K mg "pulled" "pulled" s_pulled) (a_bound_evidence : At K mg "bound_evidence" "bound_evidence" s_bound_evidence) (a_is_set : At K mg "is_set" "is_set" s_is_set) (a_accepts_bound : At K mg "accepts_bound" "accepts_bound" s_accepts_bound) (a_is_number : At K mg "is_number" "is_number" s_is_number) (a_is_event_f : At K mg "is_event_fitting" "is_event" s_is_event_f) (a_is_news : At K mg "is_news" "is_news" s_is_news) (a_is_row : At K mg "is_row" "is_row" s_is_row) (a_kept_bounds : At K mg "kept_bounds" "kept_bounds" s_kept_bounds) (a_check_row : At K mg "check_row" "check_row" s_check_row) (a_check_event : At K mg "check_event" "check_event" s_check_event) (a_marks : At K mg "marks" "marks" s_marks) (a_clamped : At K mg "clamped" "clamped" s_clamped) (a_next_limits : At K mg "next_limits" "next_limits" s_next_limits) (a_limits_of : At K mg "limits_of" "limits_of" s_limits_of) (a_limits : At K mg "limits" "limits" s_limits) (a_limit_evidence : At K mg "limit_evidence" "limit_evidence" s_limit_evidence) (a_is_two : At K mg "is_two" "is_two" s_is_two) (a_are_limits : At K mg "are_limits" "are_limits" s_are_limits) (a_accepts_limits : At K mg "accepts_limits" "accepts_limits" s_accepts_limits) (a_law_stream : At K mg "_law_stream" "_law_stream" s_law_stream) (a_law_next : At K mg "_law_next" "_law_next" s_law_next) (a_law_is_integer : At K mg "_law_is_integer" "_law_is_integer" s_law_is_integer) (a_law_equal : At K mg "_law_equal" "_law_equal" s_law_equal) (a_law_gap : At K mg "_law_gap" "_law_gap" s_law_gap) (a_law_net : At K mg "_law_net" "_law_net" s_law_net) (a_law_edges : At K mg "_law_edges" "_law_edges" s_law_edges) (a_law_bounds : At K mg "_law_bounds" "_law_bounds" s_law_bounds) (a_law_keeps : At K mg "_law_keeps" "_law_keeps" s_law_keeps) (a_law_row : At K mg "_law_row" "_law_row" s_law_row) (a_law_clamped : At K mg "_law_clamped" "_law_clamped" s_law_clamped) (a_law_next_limits : At K mg "_law_next_limits" "_law_next_limits" s_law_next_limits) (a_law_are_right : At K mg "_law_are_right" "_law_are_right" s_law_are_right) (a_law_walk : At K mg "_law_walk" "_law_walk" s_law_walk) (a_law_is_set : At K mg "_law_is_set" "_law_is_set" s_law_is_set) (a_law_is_bound : At K mg "_law_is_bound" "_law_is_bound" s_law_is_bound) (a_law_turned_walk : At K mg "_law_turned_walk" "_law_turned_walk" s_law_turned_walk) (a_law_turned_heights : At K mg "_law_turned_heights" "_law_turned_heights" s_law_turned_heights) (a_law_is_right : At K mg "_law_is_right" "_law_is_right" s_law_is_right) (a_law_turned_bound : At K mg "_law_turned_bound" "_law_turned_bound" s_law_turned_bound) (a_law_turned : At K mg "_law_turned" "_law_turned" s_law_turned) (a_law : At K mg "law" "law" s_law) (hfa : mg "law" = some (.ref fa)) :
    ∃ fd : FuncData, (∀ (s : Shared) (v : Value), BindsTo s fd ⟨[v], []⟩ [("_law_script", v)]) ∧ ∀ base : Heap, K.In base → base.Ns mainGlobals mg → FnOk P w K mg base CX0 9 fa fd ["_law_script"] (spLaw K) := by
  obtain ⟨f_is_between, fd_is_between, g_is_between, F_is_between'⟩ := a_is_between
  obtain ⟨f_is_side, fd_is_side, g_is_side, F_is_side'⟩ := a_is_side
  obtain ⟨f_is_rule, fd_is_rule, g_is_rule, F_is_rule'⟩ := a_is_rule
  obtain ⟨f_is_net, fd_is_net, g_is_net, F_is_net'⟩ := a_is_net
  obtain ⟨f_excess_of, fd_excess_of, g_excess_of, F_excess_of'⟩ := a_excess_of
  obtain ⟨f_all_hold, fd_all_hold, g_all_hold, F_all_hold'⟩ := a_all_hold
  obtain ⟨f_edges_of, fd_edges_of, g_edges_of, F_edges_of'⟩ := a_edges_of
  obtain ⟨f_edge_of, fd_edge_of, g_edge_of, F_edge_of'⟩ := a_edge_of
  obtain ⟨f_walk_end, fd_walk_end, g_walk_end, F_walk_end'⟩ := a_walk_end
  obtain ⟨f_length_of, fd_length_of, g_length_of, F_length_of'⟩ := a_length_of
  obtain ⟨f_is_integer, fd_is_integer, g_is_integer, F_is_integer'⟩ := a_is_integer
  obtain ⟨f_check_net, fd_check_net, g_check_net, F_check_net'⟩ := a_check_net
  obtain ⟨f_longer_walks, fd_longer_walks, g_longer_walks, F_longer_walks'⟩ := a_longer_walks
  obtain ⟨f_first_round, fd_first_round, g_first_round, F_first_round'⟩ := a_first_round
  obtain ⟨f_with_walk, fd_with_walk, g_with_walk, F_with_walk'⟩ := a_with_walk
  obtain ⟨f_shortest_walks, fd_shortest_walks, g_shortest_walks, F_shortest_walks'⟩ := a_shortest_walks
  obtain ⟨f_bounds_of, fd_bounds_of, g_bounds_of, F_bounds_of'⟩ := a_bounds_of
  obtain ⟨f_check_kept, fd_check_kept, g_check_kept, F_check_kept'⟩ := a_check_kept
  obtain ⟨f_heights_of, fd_heights_of, g_heights_of, F_heights_of'⟩ := a_heights_of
  obtain ⟨f_are_heights, fd_are_heights, g_are_heights, F_are_heights'⟩ := a_are_heights
  obtain ⟨f_are_right, fd_are_right, g_are_right, F_are_right'⟩ := a_are_right
  obtain ⟨f_is_event_b, fd_is_event_b, g_is_event_b, F_is_event_b'⟩ := a_is_event_b
  obtain ⟨f_check_two, fd_check_two, g_check_two, F_check_two'⟩ := a_check_two
  obtain ⟨f_pulled, fd_pulled, g_pulled, F_pulled'⟩ := a_pulled
  obtain ⟨f_bound_evidence, fd_bound_evidence, g_bound_evidence, F_bound_evidence'⟩ := a_bound_evidence
  obtain ⟨f_is_set, fd_is_set, g_is_set, F_is_set'⟩ := a_is_set
  obtain ⟨f_accepts_bound, fd_accepts_bound, g_accepts_bound, F_accepts_bound'⟩ := a_accepts_bound
  obtain ⟨f_is_number, fd_is_number, g_is_number, F_is_number'⟩ := a_is_number
  obtain ⟨f_is_event_f, fd_is_event_f, g_is_event_f, F_is_event_f'⟩ := a_is_event_f
  obtain ⟨f_is_news, fd_is_news, g_is_news, F_is_news'⟩ := a_is_news
  obtain ⟨f_is_row, fd_is_row, g_is_row, F_is_row'⟩ := a_is_row
  obtain ⟨f_kept_bounds, fd_kept_bounds, g_kept_bounds, F_kept_bounds'⟩ := a_kept_bounds
  obtain ⟨f_check_row, fd_check_row, g_check_row, F_check_row'⟩ := a_check_row
  obtain ⟨f_check_event, fd_check_event, g_check_event, F_check_event'⟩ := a_check_event
  obtain ⟨f_marks, fd_marks, g_marks, F_marks'⟩ := a_marks
  obtain ⟨f_clamped, fd_clamped, g_clamped, F_clamped'⟩ := a_clamped
  obtain ⟨f_next_limits, fd_next_limits, g_next_limits, F_next_limits'⟩ := a_next_limits
  obtain ⟨f_limits_of, fd_limits_of, g_limits_of, F_limits_of'⟩ := a_limits_of
  obtain ⟨f_limits, fd_limits, g_limits, F_limits'⟩ := a_limits
  obtain ⟨f_limit_evidence, fd_limit_evidence, g_limit_evidence, F_limit_evidence'⟩ := a_limit_evidence
  obtain ⟨f_is_two, fd_is_two, g_is_two, F_is_two'⟩ := a_is_two
  obtain ⟨f_are_limits, fd_are_limits, g_are_limits, F_are_limits'⟩ := a_are_limits
  obtain ⟨f_accepts_limits, fd_accepts_limits, g_accepts_limits, F_accepts_limits'⟩ := a_accepts_limits
  obtain ⟨f_law_stream, fd_law_stream, g_law_stream, F_law_stream'⟩ := a_law_stream
  obtain ⟨f_law_next, fd_law_next, g_law_next, F_law_next'⟩ := a_law_next
  obtain ⟨f_law_is_integer, fd_law_is_integer, g_law_is_integer, F_law_is_integer'⟩ := a_law_is_integer
  obtain ⟨f_law_equal, fd_law_equal, g_law_equal, F_law_equal'⟩ := a_law_equal
  obtain ⟨f_law_gap, fd_law_gap, g_law_gap, F_law_gap'⟩ := a_law_gap
  obtain ⟨f_law_net, fd_law_net, g_law_net, F_law_net'⟩ := a_law_net
  obtain ⟨f_law_edges, fd_law_edges, g_law_edges, F_law_edges'⟩ := a_law_edges
  obtain ⟨f_law_bounds, fd_law_bounds, g_law_bounds, F_law_bounds'⟩ := a_law_bounds
  obtain ⟨f_law_keeps, fd_law_keeps, g_law_keeps, F_law_keeps'⟩ := a_law_keeps
  obtain ⟨f_law_row, fd_law_row, g_law_row, F_law_row'⟩ := a_law_row
  obtain ⟨f_law_clamped, fd_law_clamped, g_law_clamped, F_law_clamped'⟩ := a_law_clamped
  obtain ⟨f_law_next_limits, fd_law_next_limits, g_law_next_limits, F_law_next_limits'⟩ := a_law_next_limits
  obtain ⟨f_law_are_right, fd_law_are_right, g_law_are_right, F_law_are_right'⟩ := a_law_are_right
  obtain ⟨f_law_walk, fd_law_walk, g_law_walk, F_law_walk'⟩ := a_law_walk
  obtain ⟨f_law_is_set, fd_law_is_set, g_law_is_set, F_law_is_set'⟩ := a_law_is_set
  obtain ⟨f_law_is_bound, fd_law_is_bound, g_law_is_bound, F_law_is_bound'⟩ := a_law_is_bound
  obtain ⟨f_law_turned_walk, fd_law_turned_walk, g_law_turned_walk, F_law_turned_walk'⟩ := a_law_turned_walk
  obtain ⟨f_law_turned_heights, fd_law_turned_heights, g_law_turned_heights, F_law_turned_heights'⟩ := a_law_turned_heights
  obtain ⟨f_law_is_right, fd_law_is_right, g_law_is_right, F_law_is_right'⟩ := a_law_is_right
  obtain ⟨f_law_turned_bound, fd_law_turned_bound, g_law_turned_bound, F_law_turned_bound'⟩ := a_law_turned_bound
  obtain ⟨f_law_turned, fd_law_turned, g_law_turned, F_law_turned'⟩ := a_law_turned
  obtain ⟨f_law, fd_law, g_law, F_law'⟩ := a_law
  have e := hfa.symm.trans g_law
  cases e
  refine ⟨fd_law, fun s v => ?_, fun base _ _ => ?_⟩
  · obtain ⟨oc, od, kV, doc, pm, an, cdv, ct, osl, rfl, lk, hcd⟩ := F_law'.ex
    exact .of_eq rfl
  · have c_is_between := k_is_between (P := P) (w := w) (base := base) T  F_is_between' g_is_between
    have c_is_side := k_is_side (P := P) (w := w) (base := base) T c_is_between F_is_side' g_is_side
    have c_is_rule := k_is_rule (P := P) (w := w) (base := base) T c_is_side c_is_between F_is_rule' g_is_rule
    have c_is_net := k_is_net (P := P) (w := w) (base := base) T c_is_rule c_is_between F_is_net' g_is_net
    have c_excess_of := k_excess_of (P := P) (w := w) (base := base) T  F_excess_of' g_excess_of
    have c_all_hold := k_all_hold (P := P) (w := w) (base := base) T c_excess_of F_all_hold' g_all_hold
    have c_edges_of := k_edges_of (P := P) (w := w) (base := base) T  F_edges_of' g_edges_of
    have c_edge_of := k_edge_of (P := P) (w := w) (base := base) T c_is_between F_edge_of' g_edge_of
    have c_walk_end := k_walk_end (P := P) (w := w) (base := base) T c_edge_of F_walk_end' g_walk_end
    have c_length_of := k_length_of (P := P) (w := w) (base := base) T c_edge_of F_length_of' g_length_of
    have c_is_integer := k_is_integer (P := P) (w := w) (base := base) T  F_is_integer' g_is_integer
    have c_check_net := k_check_net (P := P) (w := w) (base := base) T c_is_net F_check_net' g_check_net
    have c_longer_walks := k_longer_walks (P := P) (w := w) (base := base) T c_edges_of F_longer_walks' g_longer_walks
    have c_first_round := k_first_round (P := P) (w := w) (base := base) T c_longer_walks F_first_round' g_first_round
    have c_with_walk := k_with_walk (P := P) (w := w) (base := base) T  F_with_walk' g_with_walk
    have c_shortest_walks := k_shortest_walks (P := P) (w := w) (base := base) T c_with_walk c_longer_walks F_shortest_walks' g_shortest_walks
    have c_bounds_of := k_bounds_of (P := P) (w := w) (base := base) T c_shortest_walks c_first_round F_bounds_of' g_bounds_of
    have c_check_kept := k_check_kept (P := P) (w := w) (base := base) T c_first_round c_check_net F_check_kept' g_check_kept
    have c_heights_of := k_heights_of (P := P) (w := w) (base := base) T c_bounds_of F_heights_of' g_heights_of
    have c_are_heights := k_are_heights (P := P) (w := w) (base := base) T c_is_integer F_are_heights' g_are_heights
    have c_are_right := k_are_right (P := P) (w := w) (base := base) T c_are_heights c_all_hold F_are_right' g_are_right
    have c_is_event_b := k_is_event_b (P := P) (w := w) (base := base) T c_is_integer F_is_event_b' g_is_event_b
    have c_check_two := k_check_two (P := P) (w := w) (base := base) T c_is_event_b c_check_net F_check_two' g_check_two
    have c_pulled := k_pulled (P := P) (w := w) (base := base) T c_heights_of c_bounds_of F_pulled' g_pulled
    have c_bound_evidence := k_bound_evidence (P := P) (w := w) (base := base) T c_heights_of c_pulled c_shortest_walks c_check_kept c_check_two F_bound_evidence' g_bound_evidence
    have c_is_set := k_is_set (P := P) (w := w) (base := base) T c_is_event_b F_is_set' g_is_set
    have c_accepts_bound := k_accepts_bound (P := P) (w := w) (base := base) T c_walk_end c_length_of c_is_integer c_are_right c_edges_of c_is_set c_check_two F_accepts_bound' g_accepts_bound
    have c_is_number := k_is_number (P := P) (w := w) (base := base) T  F_is_number' g_is_number
    have c_is_event_f := k_is_event_f (P := P) (w := w) (base := base) T c_is_number F_is_event_f' g_is_event_f
    have c_is_news := k_is_news (P := P) (w := w) (base := base) T c_is_number c_is_event_f F_is_news' g_is_news
    have c_is_row := k_is_row (P := P) (w := w) (base := base) T c_is_news F_is_row' g_is_row
    have c_kept_bounds := k_kept_bounds (P := P) (w := w) (base := base) T c_bounds_of F_kept_bounds' g_kept_bounds
    have c_check_row := k_check_row (P := P) (w := w) (base := base) T c_is_row F_check_row' g_check_row
    have c_check_event := k_check_event (P := P) (w := w) (base := base) T c_is_event_b F_check_event' g_check_event
    have c_marks := k_marks (P := P) (w := w) (base := base) T  F_marks' g_marks
    have c_clamped := k_clamped (P := P) (w := w) (base := base) T  F_clamped' g_clamped
    have c_next_limits := k_next_limits (P := P) (w := w) (base := base) T c_clamped F_next_limits' g_next_limits
    have c_limits_of := k_limits_of (P := P) (w := w) (base := base) T c_next_limits c_marks F_limits_of' g_limits_of
    have c_limits := k_limits (P := P) (w := w) (base := base) T c_limits_of c_kept_bounds c_check_row c_check_net F_limits' g_limits
    have c_limit_evidence := k_limit_evidence (P := P) (w := w) (base := base) T c_bound_evidence c_kept_bounds c_check_event c_check_row c_check_net F_limit_evidence' g_limit_evidence
    have c_is_two := k_is_two (P := P) (w := w) (base := base) T  F_is_two' g_is_two
    have c_are_limits := k_are_limits (P := P) (w := w) (base := base) T c_is_two c_is_integer F_are_limits' g_are_limits
    have c_accepts_limits := k_accepts_limits (P := P) (w := w) (base := base) T c_next_limits c_marks c_accepts_bound c_is_two c_are_limits c_kept_bounds c_check_event c_check_row c_check_net F_accepts_limits' g_accepts_limits
    have c_law_next := k_law_next (P := P) (w := w) (base := base) T  F_law_next' g_law_next
    have c_law_is_integer := k_law_is_integer (P := P) (w := w) (base := base) T  F_law_is_integer' g_law_is_integer
    have c_law_equal := k_law_equal2 (P := P) (w := w) (base := base) T c_law_is_integer F_law_equal' g_law_equal
    have c_law_gap := k_law_gap (P := P) (w := w) (base := base) T c_law_next F_law_gap' g_law_gap
    have c_law_net := k_law_net (P := P) (w := w) (base := base) T c_law_next c_law_gap F_law_net' g_law_net
    have c_law_edges := k_law_edges (P := P) (w := w) (base := base) T  F_law_edges' g_law_edges
    have c_law_bounds := k_law_bounds (P := P) (w := w) (base := base) T c_law_edges F_law_bounds' g_law_bounds
    have c_law_keeps := k_law_keeps (P := P) (w := w) (base := base) T c_law_edges F_law_keeps' g_law_keeps
    have c_law_row := k_law_row (P := P) (w := w) (base := base) T c_law_next F_law_row' g_law_row
    have c_law_clamped := k_law_clamped (P := P) (w := w) (base := base) T  F_law_clamped' g_law_clamped
    have c_law_next_limits := k_law_next_limits (P := P) (w := w) (base := base) T c_law_clamped F_law_next_limits' g_law_next_limits
    have c_law_are_right := k_law_are_right (P := P) (w := w) (base := base) T c_law_keeps c_law_is_integer F_law_are_right' g_law_are_right
    have c_law_walk := k_law_walk (P := P) (w := w) (base := base) T c_law_edges c_law_is_integer F_law_walk' g_law_walk
    have c_law_is_set := k_law_is_set (P := P) (w := w) (base := base) T c_law_is_integer F_law_is_set' g_law_is_set
    have c_law_is_bound := k_law_is_bound (P := P) (w := w) (base := base) T c_law_walk c_law_is_integer c_law_are_right c_law_edges c_law_is_set F_law_is_bound' g_law_is_bound
    have c_law_turned_walk := k_law_turned_walk (P := P) (w := w) (base := base) T c_law_next F_law_turned_walk' g_law_turned_walk
    have c_law_turned_heights := k_law_turned_heights (P := P) (w := w) (base := base) T c_law_next F_law_turned_heights' g_law_turned_heights
    have c_law_is_right := k_law_is_right (P := P) (w := w) (base := base) T c_law_next_limits c_law_is_bound c_law_is_integer F_law_is_right' g_law_is_right
    have c_law_turned_bound := k_law_turned_bound (P := P) (w := w) (base := base) T c_law_next c_law_turned_heights c_law_turned_walk F_law_turned_bound' g_law_turned_bound
    have c_law_turned := k_law_turned (P := P) (w := w) (base := base) T c_law_next c_law_turned_bound F_law_turned' g_law_turned
    exact k_law pure T c_accepts_limits c_law_equal c_law_is_right c_law_next c_law_turned c_limit_evidence c_law_bounds c_limits c_law_row c_law_net F_law' F_law_stream' g_law_stream
end
end Kx
open PySem PySem.W PyProof.Rows
theorem Kx.whole (pure : Kx.LawTrue) : PySem.Challenge.rw_allbide_k37_whole_evidence_of_limits.Holds := by
  refine Kx.head ?_
  k_fill
  refine L2.walk_of (l := PySem.Challenge.rw_allbide_k37_whole_evidence_of_limits) (n := 63) (k := 9) (x := "_law_script") (CX := fun _ => L2.CX0) (sp := fun w => Kx.spLaw _) rfl (by decide) rfl ⟨rfl, by decide, by decide⟩ (fun w h Y => PySem.W.kIn_of Y) ?F (fun _ _ a ns hl _ hS => ⟨a, ns, rfl, hS, hl, fun _ => rfl⟩) (fun _ _ _ _ _ h => h)
  case F =>
    intro w mg fa h KX G hmg
    have b_isinstance : mg "isinstance" = none := by refine PySem.W.mg_none_of KX G ?_; k_is
    have b_int : mg "int" = none := by refine PySem.W.mg_none_of KX G ?_; k_is
    have b_bool : mg "bool" = none := by refine PySem.W.mg_none_of KX G ?_; k_is
    have b_str : mg "str" = none := by refine PySem.W.mg_none_of KX G ?_; k_is
    have b_tuple : mg "tuple" = none := by refine PySem.W.mg_none_of KX G ?_; k_is
    have b_list : mg "list" = none := by refine PySem.W.mg_none_of KX G ?_; k_is
    have b_len : mg "len" = none := by refine PySem.W.mg_none_of KX G ?_; k_is
    have b_all : mg "all" = none := by refine PySem.W.mg_none_of KX G ?_; k_is
    have b_any : mg "any" = none := by refine PySem.W.mg_none_of KX G ?_; k_is
    have b_sum : mg "sum" = none := by refine PySem.W.mg_none_of KX G ?_; k_is
    have b_max : mg "max" = none := by refine PySem.W.mg_none_of KX G ?_; k_is
    have b_min : mg "min" = none := by refine PySem.W.mg_none_of KX G ?_; k_is
    have b_abs : mg "abs" = none := by refine PySem.W.mg_none_of KX G ?_; k_is
    have b_range : mg "range" = none := by refine PySem.W.mg_none_of KX G ?_; k_is
    have b_enumerate : mg "enumerate" = none := by refine PySem.W.mg_none_of KX G ?_; k_is
    have b_zip : mg "zip" = none := by refine PySem.W.mg_none_of KX G ?_; k_is
    have q_MOST_EVENTS : mg "MOST_EVENTS" = some ?v_MOST_EVENTS := by refine' PySem.W.mg_of KX G ?a; (case a => k_is)
    have c_MOST_EVENTS : ∃ t, mg "MOST_EVENTS" = some (.int 6 t) := ⟨_, q_MOST_EVENTS⟩
    have q_MOST_RULES : mg "MOST_RULES" = some ?v_MOST_RULES := by refine' PySem.W.mg_of KX G ?a; (case a => k_is)
    have c_MOST_RULES : ∃ t, mg "MOST_RULES" = some (.int 12 t) := ⟨_, q_MOST_RULES⟩
    have q_FARTHEST : mg "FARTHEST" = some ?v_FARTHEST := by refine' PySem.W.mg_of KX G ?a; (case a => k_is)
    have c_FARTHEST : ∃ t, mg "FARTHEST" = some (.int 100 t) := ⟨_, q_FARTHEST⟩
    have q_MOST_NEWS : mg "MOST_NEWS" = some ?v_MOST_NEWS := by refine' PySem.W.mg_of KX G ?a; (case a => k_is)
    have c_MOST_NEWS : ∃ t, mg "MOST_NEWS" = some (.int 8 t) := ⟨_, q_MOST_NEWS⟩
    have q_MOST_TIME : mg "MOST_TIME" = some ?v_MOST_TIME := by refine' PySem.W.mg_of KX G ?a; (case a => k_is)
    have c_MOST_TIME : ∃ t, mg "MOST_TIME" = some (.int 500 t) := ⟨_, q_MOST_TIME⟩
    have c_SIDES := by refine' Kx.sides_at KX G ?a ?l; (case a => k_is); (case l => k_is)
    have a_is_between : Kx.At (Kx.head.heap_39 w.params) mg "is_between" "is_between" Kx.s_is_between := by refine' Kx.def_at KX G ?a ?l ?c ?k; (case a => k_is); (case l => k_is); (case c => k_is); (case k => k_is)
    have a_is_side : Kx.At (Kx.head.heap_39 w.params) mg "is_side" "is_side" Kx.s_is_side := by refine' Kx.def_at KX G ?a ?l ?c ?k; (case a => k_is); (case l => k_is); (case c => k_is); (case k => k_is)
    have a_is_rule : Kx.At (Kx.head.heap_39 w.params) mg "is_rule" "is_rule" Kx.s_is_rule := by refine' Kx.def_at KX G ?a ?l ?c ?k; (case a => k_is); (case l => k_is); (case c => k_is); (case k => k_is)
    have a_is_net : Kx.At (Kx.head.heap_39 w.params) mg "is_net" "is_net" Kx.s_is_net := by refine' Kx.def_at KX G ?a ?l ?c ?k; (case a => k_is); (case l => k_is); (case c => k_is); (case k => k_is)
    have a_excess_of : Kx.At (Kx.head.heap_39 w.params) mg "excess_of" "excess_of" Kx.s_excess_of := by refine' Kx.def_at KX G ?a ?l ?c ?k; (case a => k_is); (case l => k_is); (case c => k_is); (case k => k_is)
    have a_all_hold : Kx.At (Kx.head.heap_39 w.params) mg "all_hold" "all_hold" Kx.s_all_hold := by refine' Kx.def_at KX G ?a ?l ?c ?k; (case a => k_is); (case l => k_is); (case c => k_is); (case k => k_is)
    have a_edges_of : Kx.At (Kx.head.heap_39 w.params) mg "edges_of" "edges_of" Kx.s_edges_of := by refine' Kx.def_at KX G ?a ?l ?c ?k; (case a => k_is); (case l => k_is); (case c => k_is); (case k => k_is)
    have a_edge_of : Kx.At (Kx.head.heap_39 w.params) mg "edge_of" "edge_of" Kx.s_edge_of := by refine' Kx.def_at KX G ?a ?l ?c ?k; (case a => k_is); (case l => k_is); (case c => k_is); (case k => k_is)
    have a_walk_end : Kx.At (Kx.head.heap_39 w.params) mg "walk_end" "walk_end" Kx.s_walk_end := by refine' Kx.def_at KX G ?a ?l ?c ?k; (case a => k_is); (case l => k_is); (case c => k_is); (case k => k_is)
    have a_length_of : Kx.At (Kx.head.heap_39 w.params) mg "length_of" "length_of" Kx.s_length_of := by refine' Kx.def_at KX G ?a ?l ?c ?k; (case a => k_is); (case l => k_is); (case c => k_is); (case k => k_is)
    have a_is_integer : Kx.At (Kx.head.heap_39 w.params) mg "is_integer" "is_integer" Kx.s_is_integer := by refine' Kx.def_at KX G ?a ?l ?c ?k; (case a => k_is); (case l => k_is); (case c => k_is); (case k => k_is)
    have a_check_net : Kx.At (Kx.head.heap_39 w.params) mg "check_net" "check_net" Kx.s_check_net := by refine' Kx.def_at KX G ?a ?l ?c ?k; (case a => k_is); (case l => k_is); (case c => k_is); (case k => k_is)
    have a_longer_walks : Kx.At (Kx.head.heap_39 w.params) mg "longer_walks" "longer_walks" Kx.s_longer_walks := by refine' Kx.def_at KX G ?a ?l ?c ?k; (case a => k_is); (case l => k_is); (case c => k_is); (case k => k_is)
    have a_first_round : Kx.At (Kx.head.heap_39 w.params) mg "first_round" "first_round" Kx.s_first_round := by refine' Kx.def_at KX G ?a ?l ?c ?k; (case a => k_is); (case l => k_is); (case c => k_is); (case k => k_is)
    have a_with_walk : Kx.At (Kx.head.heap_39 w.params) mg "with_walk" "with_walk" Kx.s_with_walk := by refine' Kx.def_at KX G ?a ?l ?c ?k; (case a => k_is); (case l => k_is); (case c => k_is); (case k => k_is)
    have a_shortest_walks : Kx.At (Kx.head.heap_39 w.params) mg "shortest_walks" "shortest_walks" Kx.s_shortest_walks := by refine' Kx.def_at KX G ?a ?l ?c ?k; (case a => k_is); (case l => k_is); (case c => k_is); (case k => k_is)
    have a_bounds_of : Kx.At (Kx.head.heap_39 w.params) mg "bounds_of" "bounds_of" Kx.s_bounds_of := by refine' Kx.def_at KX G ?a ?l ?c ?k; (case a => k_is); (case l => k_is); (case c => k_is); (case k => k_is)
    have a_check_kept : Kx.At (Kx.head.heap_39 w.params) mg "check_kept" "check_kept" Kx.s_check_kept := by refine' Kx.def_at KX G ?a ?l ?c ?k; (case a => k_is); (case l => k_is); (case c => k_is); (case k => k_is)
    have a_heights_of : Kx.At (Kx.head.heap_39 w.params) mg "heights_of" "heights_of" Kx.s_heights_of := by refine' Kx.def_at KX G ?a ?l ?c ?k; (case a => k_is); (case l => k_is); (case c => k_is); (case k => k_is)
    have a_are_heights : Kx.At (Kx.head.heap_39 w.params) mg "are_heights" "are_heights" Kx.s_are_heights := by refine' Kx.def_at KX G ?a ?l ?c ?k; (case a => k_is); (case l => k_is); (case c => k_is); (case k => k_is)
    have a_are_right : Kx.At (Kx.head.heap_39 w.params) mg "are_right" "are_right" Kx.s_are_right := by refine' Kx.def_at KX G ?a ?l ?c ?k; (case a => k_is); (case l => k_is); (case c => k_is); (case k => k_is)
    have a_is_event_b : Kx.At (Kx.head.heap_39 w.params) mg "is_event_bounds" "is_event" Kx.s_is_event_b := by refine' Kx.def_at KX G ?a ?l ?c ?k; (case a => k_is); (case l => k_is); (case c => k_is); (case k => k_is)
    have a_check_two : Kx.At (Kx.head.heap_39 w.params) mg "check_two" "check_two" Kx.s_check_two := by refine' Kx.def_at KX G ?a ?l ?c ?k; (case a => k_is); (case l => k_is); (case c => k_is); (case k => k_is)
    have a_pulled : Kx.At (Kx.head.heap_39 w.params) mg "pulled" "pulled" Kx.s_pulled := by refine' Kx.def_at KX G ?a ?l ?c ?k; (case a => k_is); (case l => k_is); (case c => k_is); (case k => k_is)
    have a_bound_evidence : Kx.At (Kx.head.heap_39 w.params) mg "bound_evidence" "bound_evidence" Kx.s_bound_evidence := by refine' Kx.def_at KX G ?a ?l ?c ?k; (case a => k_is); (case l => k_is); (case c => k_is); (case k => k_is)
    have a_is_set : Kx.At (Kx.head.heap_39 w.params) mg "is_set" "is_set" Kx.s_is_set := by refine' Kx.def_at KX G ?a ?l ?c ?k; (case a => k_is); (case l => k_is); (case c => k_is); (case k => k_is)
    have a_accepts_bound : Kx.At (Kx.head.heap_39 w.params) mg "accepts_bound" "accepts_bound" Kx.s_accepts_bound := by refine' Kx.def_at KX G ?a ?l ?c ?k; (case a => k_is); (case l => k_is); (case c => k_is); (case k => k_is)
    have a_is_number : Kx.At (Kx.head.heap_39 w.params) mg "is_number" "is_number" Kx.s_is_number := by refine' Kx.def_at KX G ?a ?l ?c ?k; (case a => k_is); (case l => k_is); (case c => k_is); (case k => k_is)
    have a_is_event_f : Kx.At (Kx.head.heap_39 w.params) mg "is_event_fitting" "is_event" Kx.s_is_event_f := by refine' Kx.def_at KX G ?a ?l ?c ?k; (case a => k_is); (case l => k_is); (case c => k_is); (case k => k_is)
    have a_is_news : Kx.At (Kx.head.heap_39 w.params) mg "is_news" "is_news" Kx.s_is_news := by refine' Kx.def_at KX G ?a ?l ?c ?k; (case a => k_is); (case l => k_is); (case c => k_is); (case k => k_is)
    have a_is_row : Kx.At (Kx.head.heap_39 w.params) mg "is_row" "is_row" Kx.s_is_row := by refine' Kx.def_at KX G ?a ?l ?c ?k; (case a => k_is); (case l => k_is); (case c => k_is); (case k => k_is)
    have a_kept_bounds : Kx.At (Kx.head.heap_39 w.params) mg "kept_bounds" "kept_bounds" Kx.s_kept_bounds := by refine' Kx.def_at KX G ?a ?l ?c ?k; (case a => k_is); (case l => k_is); (case c => k_is); (case k => k_is)
    have a_check_row : Kx.At (Kx.head.heap_39 w.params) mg "check_row" "check_row" Kx.s_check_row := by refine' Kx.def_at KX G ?a ?l ?c ?k; (case a => k_is); (case l => k_is); (case c => k_is); (case k => k_is)
    have a_check_event : Kx.At (Kx.head.heap_39 w.params) mg "check_event" "check_event" Kx.s_check_event := by refine' Kx.def_at KX G ?a ?l ?c ?k; (case a => k_is); (case l => k_is); (case c => k_is); (case k => k_is)
    have a_marks : Kx.At (Kx.head.heap_39 w.params) mg "marks" "marks" Kx.s_marks := by refine' Kx.def_at KX G ?a ?l ?c ?k; (case a => k_is); (case l => k_is); (case c => k_is); (case k => k_is)
    have a_clamped : Kx.At (Kx.head.heap_39 w.params) mg "clamped" "clamped" Kx.s_clamped := by refine' Kx.def_at KX G ?a ?l ?c ?k; (case a => k_is); (case l => k_is); (case c => k_is); (case k => k_is)
    have a_next_limits : Kx.At (Kx.head.heap_39 w.params) mg "next_limits" "next_limits" Kx.s_next_limits := by refine' Kx.def_at KX G ?a ?l ?c ?k; (case a => k_is); (case l => k_is); (case c => k_is); (case k => k_is)
    have a_limits_of : Kx.At (Kx.head.heap_39 w.params) mg "limits_of" "limits_of" Kx.s_limits_of := by refine' Kx.def_at KX G ?a ?l ?c ?k; (case a => k_is); (case l => k_is); (case c => k_is); (case k => k_is)
    have a_limits : Kx.At (Kx.head.heap_39 w.params) mg "limits" "limits" Kx.s_limits := by refine' Kx.def_at KX G ?a ?l ?c ?k; (case a => k_is); (case l => k_is); (case c => k_is); (case k => k_is)
    have a_limit_evidence : Kx.At (Kx.head.heap_39 w.params) mg "limit_evidence" "limit_evidence" Kx.s_limit_evidence := by refine' Kx.def_at KX G ?a ?l ?c ?k; (case a => k_is); (case l => k_is); (case c => k_is); (case k => k_is)
    have a_is_two : Kx.At (Kx.head.heap_39 w.params) mg "is_two" "is_two" Kx.s_is_two := by refine' Kx.def_at KX G ?a ?l ?c ?k; (case a => k_is); (case l => k_is); (case c => k_is); (case k => k_is)
    have a_are_limits : Kx.At (Kx.head.heap_39 w.params) mg "are_limits" "are_limits" Kx.s_are_limits := by refine' Kx.def_at KX G ?a ?l ?c ?k; (case a => k_is); (case l => k_is); (case c => k_is); (case k => k_is)
    have a_accepts_limits : Kx.At (Kx.head.heap_39 w.params) mg "accepts_limits" "accepts_limits" Kx.s_accepts_limits := by refine' Kx.def_at KX G ?a ?l ?c ?k; (case a => k_is); (case l => k_is); (case c => k_is); (case k => k_is)
    have a_law_stream : Kx.At (Kx.head.heap_39 w.params) mg "_law_stream" "_law_stream" Kx.s_law_stream := by refine' Kx.def_at KX G ?a ?l ?c ?k; (case a => k_is); (case l => k_is); (case c => k_is); (case k => k_is)
    have a_law_next : Kx.At (Kx.head.heap_39 w.params) mg "_law_next" "_law_next" Kx.s_law_next := by refine' Kx.def_at KX G ?a ?l ?c ?k; (case a => k_is); (case l => k_is); (case c => k_is); (case k => k_is)
    have a_law_is_integer : Kx.At (Kx.head.heap_39 w.params) mg "_law_is_integer" "_law_is_integer" Kx.s_law_is_integer := by refine' Kx.def_at KX G ?a ?l ?c ?k; (case a => k_is); (case l => k_is); (case c => k_is); (case k => k_is)
    have a_law_equal : Kx.At (Kx.head.heap_39 w.params) mg "_law_equal" "_law_equal" Kx.s_law_equal := by refine' Kx.def_at KX G ?a ?l ?c ?k; (case a => k_is); (case l => k_is); (case c => k_is); (case k => k_is)
    have a_law_gap : Kx.At (Kx.head.heap_39 w.params) mg "_law_gap" "_law_gap" Kx.s_law_gap := by refine' Kx.def_at KX G ?a ?l ?c ?k; (case a => k_is); (case l => k_is); (case c => k_is); (case k => k_is)
    have a_law_net : Kx.At (Kx.head.heap_39 w.params) mg "_law_net" "_law_net" Kx.s_law_net := by refine' Kx.def_at KX G ?a ?l ?c ?k; (case a => k_is); (case l => k_is); (case c => k_is); (case k => k_is)
    have a_law_edges : Kx.At (Kx.head.heap_39 w.params) mg "_law_edges" "_law_edges" Kx.s_law_edges := by refine' Kx.def_at KX G ?a ?l ?c ?k; (case a => k_is); (case l => k_is); (case c => k_is); (case k => k_is)
    have a_law_bounds : Kx.At (Kx.head.heap_39 w.params) mg "_law_bounds" "_law_bounds" Kx.s_law_bounds := by refine' Kx.def_at KX G ?a ?l ?c ?k; (case a => k_is); (case l => k_is); (case c => k_is); (case k => k_is)
    have a_law_keeps : Kx.At (Kx.head.heap_39 w.params) mg "_law_keeps" "_law_keeps" Kx.s_law_keeps := by refine' Kx.def_at KX G ?a ?l ?c ?k; (case a => k_is); (case l => k_is); (case c => k_is); (case k => k_is)
    have a_law_row : Kx.At (Kx.head.heap_39 w.params) mg "_law_row" "_law_row" Kx.s_law_row := by refine' Kx.def_at KX G ?a ?l ?c ?k; (case a => k_is); (case l => k_is); (case c => k_is); (case k => k_is)
    have a_law_clamped : Kx.At (Kx.head.heap_39 w.params) mg "_law_clamped" "_law_clamped" Kx.s_law_clamped := by refine' Kx.def_at KX G ?a ?l ?c ?k; (case a => k_is); (case l => k_is); (case c => k_is); (case k => k_is)
    have a_law_next_limits : Kx.At (Kx.head.heap_39 w.params) mg "_law_next_limits" "_law_next_limits" Kx.s_law_next_limits := by refine' Kx.def_at KX G ?a ?l ?c ?k; (case a => k_is); (case l => k_is); (case c => k_is); (case k => k_is)
    have a_law_are_right : Kx.At (Kx.head.heap_39 w.params) mg "_law_are_right" "_law_are_right" Kx.s_law_are_right := by refine' Kx.def_at KX G ?a ?l ?c ?k; (case a => k_is); (case l => k_is); (case c => k_is); (case k => k_is)
    have a_law_walk : Kx.At (Kx.head.heap_39 w.params) mg "_law_walk" "_law_walk" Kx.s_law_walk := by refine' Kx.def_at KX G ?a ?l ?c ?k; (case a => k_is); (case l => k_is); (case c => k_is); (case k => k_is)
    have a_law_is_set : Kx.At (Kx.head.heap_39 w.params) mg "_law_is_set" "_law_is_set" Kx.s_law_is_set := by refine' Kx.def_at KX G ?a ?l ?c ?k; (case a => k_is); (case l => k_is); (case c => k_is); (case k => k_is)
    have a_law_is_bound : Kx.At (Kx.head.heap_39 w.params) mg "_law_is_bound" "_law_is_bound" Kx.s_law_is_bound := by refine' Kx.def_at KX G ?a ?l ?c ?k; (case a => k_is); (case l => k_is); (case c => k_is); (case k => k_is)
    have a_law_turned_walk : Kx.At (Kx.head.heap_39 w.params) mg "_law_turned_walk" "_law_turned_walk" Kx.s_law_turned_walk := by refine' Kx.def_at KX G ?a ?l ?c ?k; (case a => k_is); (case l => k_is); (case c => k_is); (case k => k_is)
    have a_law_turned_heights : Kx.At (Kx.head.heap_39 w.params) mg "_law_turned_heights" "_law_turned_heights" Kx.s_law_turned_heights := by refine' Kx.def_at KX G ?a ?l ?c ?k; (case a => k_is); (case l => k_is); (case c => k_is); (case k => k_is)
    have a_law_is_right : Kx.At (Kx.head.heap_39 w.params) mg "_law_is_right" "_law_is_right" Kx.s_law_is_right := by refine' Kx.def_at KX G ?a ?l ?c ?k; (case a => k_is); (case l => k_is); (case c => k_is); (case k => k_is)
    have a_law_turned_bound : Kx.At (Kx.head.heap_39 w.params) mg "_law_turned_bound" "_law_turned_bound" Kx.s_law_turned_bound := by refine' Kx.def_at KX G ?a ?l ?c ?k; (case a => k_is); (case l => k_is); (case c => k_is); (case k => k_is)
    have a_law_turned : Kx.At (Kx.head.heap_39 w.params) mg "_law_turned" "_law_turned" Kx.s_law_turned := by refine' Kx.def_at KX G ?a ?l ?c ?k; (case a => k_is); (case l => k_is); (case c => k_is); (case k => k_is)
    have a_law : Kx.At (Kx.head.heap_39 w.params) mg "law" "law" Kx.s_law := by refine' Kx.def_at KX G ?a ?l ?c ?k; (case a => k_is); (case l => k_is); (case c => k_is); (case k => k_is)
    exact Kx.all_mk pure ⟨b_isinstance, b_int, b_bool, b_str, b_tuple, b_list, b_len, b_all, b_any, b_sum, b_max, b_min, b_abs, b_range, b_enumerate, b_zip, c_MOST_EVENTS, c_MOST_RULES, c_FARTHEST, c_MOST_NEWS, c_MOST_TIME, c_SIDES⟩ a_is_between a_is_side a_is_rule a_is_net a_excess_of a_all_hold a_edges_of a_edge_of a_walk_end a_length_of a_is_integer a_check_net a_longer_walks a_first_round a_with_walk a_shortest_walks a_bounds_of a_check_kept a_heights_of a_are_heights a_are_right a_is_event_b a_check_two a_pulled a_bound_evidence a_is_set a_accepts_bound a_is_number a_is_event_f a_is_news a_is_row a_kept_bounds a_check_row a_check_event a_marks a_clamped a_next_limits a_limits_of a_limits a_limit_evidence a_is_two a_are_limits a_accepts_limits a_law_stream a_law_next a_law_is_integer a_law_equal a_law_gap a_law_net a_law_edges a_law_bounds a_law_keeps a_law_row a_law_clamped a_law_next_limits a_law_are_right a_law_walk a_law_is_set a_law_is_bound a_law_turned_walk a_law_turned_heights a_law_is_right a_law_turned_bound a_law_turned a_law hmg
set_option Elab.async false
set_option linter.all false
set_option maxRecDepth 100000
set_option maxHeartbeats 4000000
/-! plain graphs: walks, shortest walks, distances -/
namespace Kx
open PySem PySem.Spec PyProof.Rows L2

structure Ed where
  ix : Int
  hi : Bool
  a : Int
  b : Int
  w : Int
def IsW (E : List Ed) : Int → List Ed → Int → Prop
  | i, [], j => i = j
  | i, e :: w, j => e ∈ E ∧ e.a = i ∧ IsW E e.b w j
def tot : List Ed → Int
  | [] => 0
  | e :: w => e.w + tot w
theorem tot_append : ∀ u v : List Ed, tot (u ++ v) = tot u + tot v
  | [], v => by simp [tot]
  | e :: u, v => by simp [tot, tot_append u v]; omega
theorem isW_append {E : List Ed} : ∀ {i j k : Int} {u v : List Ed}, IsW E i u j → IsW E j v k → IsW E i (u ++ v) k
  | i, j, k, [], v, h, h2 => by
    cases h
    exact h2
  | i, j, k, e :: u, v, ⟨h0, h1, h⟩, h2 => ⟨h0, h1, isW_append h h2⟩
theorem isW_split {E : List Ed} : ∀ {i k : Int} {u v : List Ed}, IsW E i (u ++ v) k → ∃ j, IsW E i u j ∧ IsW E j v k
  | i, k, [], v, h => ⟨i, rfl, h⟩
  | i, k, e :: u, v, ⟨h0, h1, h⟩ => by
    obtain ⟨j, a, b⟩ := isW_split h
    exact ⟨j, ⟨h0, h1, a⟩, b⟩
theorem isW_snoc {E : List Ed} {i k : Int} {u : List Ed} {e : Ed} (h : IsW E i u e.a) (he : e ∈ E) (hk : e.b = k) : IsW E i (u ++ [e]) k :=
  isW_append h ⟨he, rfl, hk⟩
def Pot (E : List Ed) (h : Int → Int) : Prop := ∀ e ∈ E, h e.b - h e.a ≤ e.w
theorem pot_walk {E : List Ed} {h : Int → Int} (p : Pot E h) : ∀ {i j : Int} {w : List Ed}, IsW E i w j → h j - h i ≤ tot w
  | i, j, [], hw => by
    cases hw
    simp [tot]
  | i, j, e :: w, ⟨h0, h1, hw⟩ => by
    have a := pot_walk p hw
    have b := p e h0
    rw [h1] at b
    simp only [tot]
    omega
def Rg (n : Int) (i : Int) : Prop := 0 ≤ i ∧ i < n
def ERg (n : Int) (E : List Ed) : Prop := ∀ e ∈ E, Rg n e.a ∧ Rg n e.b
theorem rg_walk {n : Int} {E : List Ed} (r : ERg n E) : ∀ {i j : Int} {w : List Ed}, IsW E i w j → Rg n i → Rg n j
  | i, j, [], hw, hi => by
    cases hw
    exact hi
  | i, j, e :: w, ⟨h0, h1, hw⟩, hi => rg_walk r hw (r e h0).2
theorem rg_verts {n : Int} {E : List Ed} (r : ERg n E) : ∀ {i j : Int} {w : List Ed}, IsW E i w j → Rg n i → ∀ x ∈ i :: w.map (·.b), Rg n x
  | i, j, [], hw, hi, x, hx => by
    simp at hx
    rw [hx]
    exact hi
  | i, j, e :: w, ⟨h0, h1, hw⟩, hi, x, hx => by
    rcases List.mem_cons.mp hx with h | h
    · rw [h]
      exact hi
    · exact rg_verts r hw (r e h0).2 x h

/-! ### counting -/
theorem nodup_le {α : Type} [DecidableEq α] : ∀ {l m : List α}, l.Nodup → (∀ x ∈ l, x ∈ m) → l.length ≤ m.length
  | [], m, _, _ => Nat.zero_le _
  | a :: l, m, h, s => by
    have ha : a ∈ m := s a (List.mem_cons_self ..)
    have hn := List.nodup_cons.mp h
    have := nodup_le (l := l) (m := m.erase a) hn.2 (fun x hx => (List.mem_erase_of_ne (fun e : x = a => hn.1 (by rw [← e]; exact hx))).mpr (s x (List.mem_cons_of_mem _ hx)))
    rw [List.length_erase_of_mem ha] at this
    have pos : 0 < m.length := List.length_pos_of_mem ha
    simp only [List.length_cons]
    omega
def ev (n : Nat) : List Int := (List.range n).map fun i : Nat => (i : Int)
theorem mem_ev {n : Nat} {i : Int} : i ∈ ev n ↔ Rg n i := by
  unfold ev Rg
  rw [List.mem_map]
  constructor
  · rintro ⟨k, hk, rfl⟩
    rw [List.mem_range] at hk
    omega
  · rintro ⟨h0, h1⟩
    exact ⟨i.toNat, by rw [List.mem_range]; omega, by omega⟩
theorem ev_length (n : Nat) : (ev n).length = n := by simp [ev]
theorem nodup_rg {n : Nat} {l : List Int} (h : l.Nodup) (r : ∀ x ∈ l, Rg n x) : l.length ≤ n := by
  have := nodup_le h (fun x hx => mem_ev.mpr (r x hx))
  rwa [ev_length] at this
def ev2 (n : Nat) : List (Int × Int) := (ev n).flatMap fun i => (ev n).map fun j => (i, j)
theorem mem_ev2 {n : Nat} {p : Int × Int} : p ∈ ev2 n ↔ Rg n p.1 ∧ Rg n p.2 := by
  unfold ev2
  rw [List.mem_flatMap]
  constructor
  · rintro ⟨i, hi, h⟩
    rw [List.mem_map] at h
    obtain ⟨j, hj, rfl⟩ := h
    exact ⟨mem_ev.mp hi, mem_ev.mp hj⟩
  · rintro ⟨h1, h2⟩
    exact ⟨p.1, mem_ev.mpr h1, List.mem_map.mpr ⟨p.2, mem_ev.mpr h2, rfl⟩⟩
theorem ev2_length (n : Nat) : (ev2 n).length = n * n := by
  unfold ev2
  rw [List.length_flatMap]
  simp [ev_length]
  have : ∀ l : List Int, (l.map fun _ => n).sum = l.length * n := fun l => by
    induction l with
    | nil => simp
    | cons a l ih => simp [ih, Nat.succ_mul, Nat.add_comm]
  first
  | rw [this, ev_length]
  | skip
theorem nodup_rg2 {n : Nat} {l : List (Int × Int)} (h : l.Nodup) (r : ∀ x ∈ l, Rg n x.1 ∧ Rg n x.2) : l.length ≤ n * n := by
  have := nodup_le h (fun x hx => mem_ev2.mpr (r x hx))
  rwa [ev2_length] at this

/-! ### every walk has a short one below it -/
theorem cut_at {E : List Ed} : ∀ {w : List Ed} {i j x : Int}, IsW E i w j → x ∈ w.map (·.b) → ∃ c q, w = c ++ q ∧ c ≠ [] ∧ IsW E i c x ∧ IsW E x q j
  | [], i, j, x, h, hx => by simp at hx
  | e :: w, i, j, x, ⟨h0, h1, h⟩, hx => by
    by_cases hb : e.b = x
    · exact ⟨[e], w, rfl, by simp, ⟨h0, h1, hb⟩, hb ▸ h⟩
    · have : x ∈ w.map (·.b) := by
        simp only [List.map_cons, List.mem_cons] at hx
        rcases hx with e1 | e1
        · exact absurd e1.symm hb
        · exact e1
      obtain ⟨c, q, rfl, hc, a, b⟩ := cut_at h this
      exact ⟨e :: c, q, rfl, by simp, ⟨h0, h1, a⟩, b⟩
theorem find_round {E : List Ed} : ∀ {w : List Ed} {i j : Int}, IsW E i w j → ¬ (i :: w.map (·.b)).Nodup → ∃ p c q k, w = p ++ (c ++ q) ∧ c ≠ [] ∧ IsW E i p k ∧ IsW E k c k ∧ IsW E k q j
  | [], i, j, h, hn => by simp at hn
  | e :: w, i, j, ⟨h0, h1, h⟩, hn => by
    by_cases hi : i ∈ (e :: w).map (·.b)
    · obtain ⟨c, q, hw, hc, a, b⟩ := cut_at (E := E) (w := e :: w) (i := i) (j := j) ⟨h0, h1, h⟩ hi
      exact ⟨[], c, q, i, hw, hc, rfl, a, b⟩
    · have hn' : ¬ (e.b :: w.map (·.b)).Nodup := fun z => hn (List.nodup_cons.mpr ⟨hi, z⟩)
      obtain ⟨p, c, q, k, rfl, hc, a, b, d⟩ := find_round h hn'
      exact ⟨e :: p, c, q, k, rfl, hc, ⟨h0, h1, a⟩, b, d⟩
theorem short_walk {n : Nat} {E : List Ed} {h : Int → Int} (p : Pot E h) (r : ERg n E) : ∀ (m : Nat) {w : List Ed} {i j : Int}, w.length ≤ m → IsW E i w j → Rg n i → ∃ v, IsW E i v j ∧ v.length < n ∧ tot v ≤ tot w
  | 0, w, i, j, hm, hw, hi => by
    have : w = [] := List.length_eq_zero_iff.mp (by omega)
    subst this
    exact ⟨[], hw, by have := hi.1; have := hi.2; simp; omega, Int.le_refl _⟩
  | m + 1, w, i, j, hm, hw, hi => by
    by_cases hl : w.length < n
    · exact ⟨w, hw, hl, Int.le_refl _⟩
    · have hnd : ¬ (i :: w.map (·.b)).Nodup := fun z => by
        have := nodup_rg z (rg_verts r hw hi)
        simp at this
        omega
      obtain ⟨u, c, q, k, rfl, hc, h1, h2, h3⟩ := find_round hw hnd
      have pc := pot_walk p h2
      have cl : 0 < c.length := List.length_pos_iff.mpr hc
      simp only [List.length_append] at hm
      obtain ⟨v, a, b, d⟩ := short_walk p r m (w := u ++ q) (by simp only [List.length_append]; omega) (isW_append h1 h3) hi
      refine ⟨v, a, b, ?_⟩
      simp only [tot_append] at *
      omega

/-! ### distances -/
def Dist (E : List Ed) (i j : Int) : Option Int → Prop
  | none => ∀ w, ¬ IsW E i w j
  | some d => (∃ w, IsW E i w j ∧ tot w = d) ∧ ∀ w, IsW E i w j → d ≤ tot w
theorem Dist.uniq {E : List Ed} {i j : Int} : ∀ {o o' : Option Int}, Dist E i j o → Dist E i j o' → o = o'
  | none, none, _, _ => rfl
  | none, some d, h, ⟨⟨w, hw, _⟩, _⟩ => absurd hw (h w)
  | some d, none, ⟨⟨w, hw, _⟩, _⟩, h => absurd hw (h w)
  | some d, some d', ⟨⟨w, hw, e⟩, h⟩, ⟨⟨w', hw', e'⟩, h'⟩ => by
    have := h w' hw'
    have := h' w hw
    have : d = d' := by omega
    rw [this]

/-! ### dicts as lists of pairs -/
section
variable {α β : Type}
def nLook (kvs : List ((Int × Int) × α)) (p : Int × Int) : Option α := (kvs.find? fun kv => decide (kv.1 = p)).map (·.2)
def nPut (kvs : List ((Int × Int) × α)) (p : Int × Int) (d : α) : List ((Int × Int) × α) :=
  if (kvs.any fun kv => decide (kv.1 = p)) = true then kvs.map (fun kv => if kv.1 = p then (kv.1, d) else kv) else kvs ++ [(p, d)]
def nMap (f : α → β) (kvs : List ((Int × Int) × α)) : List ((Int × Int) × β) := kvs.map fun kv => (kv.1, f kv.2)
def nKeys (kvs : List ((Int × Int) × α)) : List (Int × Int) := kvs.map (·.1)
theorem nLook_map (f : α → β) (p : Int × Int) : ∀ kvs : List ((Int × Int) × α), nLook (nMap f kvs) p = (nLook kvs p).map f
  | [] => rfl
  | kv :: kvs => by
    have ih := nLook_map f p kvs
    unfold nLook nMap at *
    by_cases h : kv.1 = p
    · simp [h]
    · simp [h] at *
      exact ih
theorem nPut_map (f : α → β) (p : Int × Int) (d : α) (kvs : List ((Int × Int) × α)) : nPut (nMap f kvs) p (f d) = nMap f (nPut kvs p d) := by
  unfold nPut nMap
  have h : ((kvs.map fun kv => (kv.1, f kv.2)).any fun kv => decide (kv.1 = p)) = (kvs.any fun kv => decide (kv.1 = p)) := by
    rw [List.any_map]
    rfl
  rw [h]
  split
  · rw [List.map_map, List.map_map]
    refine List.map_congr_left fun kv _ => ?_
    simp only [Function.comp]
    split <;> rfl
  · rw [List.map_append]
    rfl
theorem nKeys_map (f : α → β) (kvs : List ((Int × Int) × α)) : nKeys (nMap f kvs) = nKeys kvs := by
  unfold nKeys nMap
  rw [List.map_map]
  rfl
theorem nLook_cons (kv : (Int × Int) × α) (kvs : List ((Int × Int) × α)) (p : Int × Int) : nLook (kv :: kvs) p = if kv.1 = p then some kv.2 else nLook kvs p := by
  unfold nLook
  by_cases h : kv.1 = p
  · simp [h]
  · simp [h]
theorem nLook_nil (p : Int × Int) : nLook ([] : List ((Int × Int) × α)) p = none := rfl
theorem nLook_none {p : Int × Int} : ∀ {kvs : List ((Int × Int) × α)}, nLook kvs p = none ↔ p ∉ nKeys kvs
  | [] => by simp [nLook, nKeys]
  | kv :: kvs => by
    rw [nLook_cons]
    have := nLook_none (p := p) (kvs := kvs)
    unfold nKeys at *
    by_cases h : kv.1 = p
    · simp [h]
    · rw [if_neg h, this]
      simp
      intro _
      exact fun z => h z.symm
theorem nLook_mem {p : Int × Int} {d : α} : ∀ {kvs : List ((Int × Int) × α)}, nLook kvs p = some d → (p, d) ∈ kvs
  | [], h => by simp [nLook] at h
  | kv :: kvs, h => by
    rw [nLook_cons] at h
    by_cases e : kv.1 = p
    · rw [if_pos e] at h
      cases h
      rw [← e]
      exact List.mem_cons_self ..
    · rw [if_neg e] at h
      exact List.mem_cons_of_mem _ (nLook_mem h)
theorem nLook_of_mem {p : Int × Int} {d : α} : ∀ {kvs : List ((Int × Int) × α)}, (nKeys kvs).Nodup → (p, d) ∈ kvs → nLook kvs p = some d
  | [], _, h => by simp at h
  | kv :: kvs, hn, h => by
    rw [nLook_cons]
    unfold nKeys at hn
    rw [List.map_cons, List.nodup_cons] at hn
    rcases List.mem_cons.mp h with e | e
    · rw [← e, if_pos rfl]
    · rw [if_neg ?_]
      · exact nLook_of_mem hn.2 e
      · intro z
        exact hn.1 (z ▸ List.mem_map.mpr ⟨_, e, rfl⟩)
theorem any_key (kvs : List ((Int × Int) × α)) (p : Int × Int) : (kvs.any fun kv => decide (kv.1 = p)) = true ↔ p ∈ nKeys kvs := by
  unfold nKeys
  rw [List.any_eq_true, List.mem_map]
  constructor
  · rintro ⟨kv, h1, h2⟩
    exact ⟨kv, h1, of_decide_eq_true h2⟩
  · rintro ⟨kv, h1, h2⟩
    exact ⟨kv, h1, decide_eq_true h2⟩
theorem nKeys_put (kvs : List ((Int × Int) × α)) (p : Int × Int) (d : α) : nKeys (nPut kvs p d) = if p ∈ nKeys kvs then nKeys kvs else nKeys kvs ++ [p] := by
  by_cases h : p ∈ nKeys kvs
  · rw [if_pos h]
    unfold nPut
    rw [if_pos ((any_key kvs p).mpr h)]
    unfold nKeys
    rw [List.map_map]
    refine List.map_congr_left fun kv _ => ?_
    simp only [Function.comp]
    split <;> rfl
  · rw [if_neg h]
    unfold nPut
    rw [if_neg (fun z => h ((any_key kvs p).mp z))]
    unfold nKeys
    rw [List.map_append]
    rfl
theorem nPut_nodup {kvs : List ((Int × Int) × α)} {p : Int × Int} {d : α} (h : (nKeys kvs).Nodup) : (nKeys (nPut kvs p d)).Nodup := by
  rw [nKeys_put]
  split
  · exact h
  · rename_i hp
    rw [List.nodup_append]
    refine ⟨h, by simp, fun a ha b hb => ?_⟩
    rw [List.mem_singleton.mp hb]
    exact fun e => hp (e ▸ ha)
theorem nLook_put (kvs : List ((Int × Int) × α)) (p q : Int × Int) (d : α) : nLook (nPut kvs p d) q = if p = q then some d else nLook kvs q := by
  unfold nPut
  by_cases h : (kvs.any fun kv => decide (kv.1 = p)) = true
  · rw [if_pos h]
    replace h := (any_key kvs p).mp h
    induction kvs with
    | nil => simp [nKeys] at h
    | cons kv kvs ih =>
      rw [List.map_cons, nLook_cons, nLook_cons]
      by_cases e : kv.1 = p
      · rw [if_pos e]
        by_cases e2 : p = q
        · simp [e, e2]
        · simp only [e, if_neg e2]
          clear ih h
          induction kvs with
          | nil => rfl
          | cons kv2 kvs ih =>
            rw [List.map_cons, nLook_cons, nLook_cons]
            by_cases e3 : kv2.1 = p
            · simp only [e3, if_pos, if_neg e2]
              exact ih
            · simp only [if_neg e3]
              rw [ih]
      · rw [if_neg e]
        by_cases e2 : kv.1 = q
        · have : ¬ p = q := fun z => e (e2.trans z.symm)
          simp [e2, this]
        · simp only [if_neg e2]
          refine ih ?_
          unfold nKeys at h
          rw [List.map_cons, List.mem_cons] at h
          exact h.resolve_left fun z => e z.symm
  · rw [if_neg h]
    have hp : p ∉ nKeys kvs := fun z => h ((any_key kvs p).mpr z)
    have hl := nLook_none.mpr hp
    unfold nLook at hl ⊢
    rw [List.find?_append]
    by_cases e : p = q
    · subst e
      rw [Option.map_eq_none_iff] at hl
      rw [hl]
      simp
    · rw [if_neg e]
      simp [e]
end
theorem dLook_eq (kvs : List ((Int × Int) × D)) (p : Int × Int) : dLook kvs p = nLook kvs p := rfl
theorem dPut_eq (kvs : List ((Int × Int) × D)) (p : Int × Int) (d : D) : dPut kvs p d = nPut kvs p d := rfl
end Kx
set_option Elab.async false
set_option linter.all false
set_option maxRecDepth 100000
set_option maxHeartbeats 4000000
/-! evaluation: what the combinators answer at given slots -/
namespace Kx
open PySem PySem.Spec PyProof.Rows L2

@[simp] theorem x_sNil (ρ : Rho) : sNil  ρ = some (.nx ρ) := by rfl
@[simp] theorem x_sCons (f g : Fs) (ρ : Rho) : sCons f g ρ = match f ρ with
  | some (.nx ρ1) => g ρ1
  | some (.rt d ρ1) => some (.rt d ρ1)
  | none => none := by rfl
@[simp] theorem x_sExpr (fa : Fe) (ρ : Rho) : sExpr fa ρ = match fa ρ with
  | some (_, ρ1) => some (.nx ρ1)
  | none => none := by rfl
@[simp] theorem x_sRet (fa : Fe) (ρ : Rho) : sRet fa ρ = match fa ρ with
  | some (d, ρ1) => some (.rt d ρ1)
  | none => none := by rfl
@[simp] theorem x_sIf (ft : Ft) (f g : Fs) (ρ : Rho) : sIf ft f g ρ = match ft ρ with
  | some (true, ρ1) => f ρ1
  | some (false, ρ1) => g ρ1
  | none => none := by rfl
@[simp] theorem x_sNever (ρ : Rho) : sNever  ρ = none := by rfl
@[simp] theorem x_sAsg (fa : Fe) (g : Fg) (ρ : Rho) : sAsg fa g ρ = match fa ρ with
  | some (d, ρ1) => match g d ρ1 with
    | some ρ2 => some (.nx ρ2)
    | none => none
  | none => none := by rfl
@[simp] theorem x_sSet (i : Nat) (fa : Fe) (ρ : Rho) : sSet i fa ρ = match fa ρ with
  | some (d, ρ1) => some (.nx (ρ1.set i (some (.fz d))))
  | none => none := by rfl
@[simp] theorem x_gSet (i : Nat) (d : D) (ρ : Rho) : gSet i d ρ = some (ρ.set i (some (.fz d))) := by rfl
@[simp] theorem x_gsNil (ds : List D) (ρ : Rho) : gsNil  ds ρ = match ds with
  | [] => some ρ
  | _ => none := by rfl
@[simp] theorem x_gsCons (g : Fg) (gs : Fgs) (ds : List D) (ρ : Rho) : gsCons g gs ds ρ = match ds with
  | d :: ds => match g d ρ with
    | some ρ1 => gs ds ρ1
    | none => none
  | [] => none := by rfl
@[simp] theorem x_gTupT (n : Nat) (gs : Fgs) (d : D) (ρ : Rho) : gTupT n gs d ρ = match d with
  | .tup ds => if ds.length = n then gs ds ρ else none
  | _ => none := by rfl
@[simp] theorem x_sNewL (i : Nat) (ρ : Rho) : sNewL i ρ = some (.nx (ρ.set i (some (.ol [])))) := by rfl
@[simp] theorem x_sNewD (i : Nat) (ρ : Rho) : sNewD i ρ = some (.nx (ρ.set i (some (.od [])))) := by rfl
@[simp] theorem x_sApp (i : Nat) (fa : Fe) (ρ : Rho) : sApp i fa ρ = match ρ[i]? with
  | some (some (.ol _)) => match fa ρ with
    | some (d, ρ1) => match ρ1[i]? with
      | some (some (.ol ds)) => if ds.length < 1000 then some (.nx (ρ1.set i (some (.ol (ds ++ [d]))))) else none
      | _ => none
    | none => none
  | _ => none := by rfl
@[simp] theorem x_sPut (i : Nat) (fk fv : Fe) (ρ : Rho) : sPut i fk fv ρ = match fv ρ with
  | some (d, ρ1) => match ρ1[i]? with
    | some (some (.od _)) => match fk ρ1 with
      | some (y, ρ2) => match ρ2[i]? with
        | some (some (.od kvs)) => match dKey y with
          | some k => if kvs.length < 1000 then some (.nx (ρ2.set i (some (.od (dPut kvs k d))))) else none
          | none => none
        | _ => none
      | none => none
    | _ => none
  | none => none := by rfl
@[simp] theorem x_eGet (i : Nat) (fb : Fe) (ρ : Rho) : eGet i fb ρ = match ρ[i]? with
  | some (some (.fz (.dct kvs))) => match fb ρ with
    | some (y, ρ1) => match dKey y with
      | some k => some ((dLook kvs k).getD .non, ρ1)
      | none => none
    | none => none
  | _ => none := by rfl
@[simp] theorem x_eDgetO (i : Nat) (fb : Fe) (ρ : Rho) : eDgetO i fb ρ = match ρ[i]? with
  | some (some (.od _)) => match fb ρ with
    | some (y, ρ1) => match ρ1[i]? with
      | some (some (.od kvs)) => match dKey y with
        | some k => match dLook kvs k with
          | some d => some (d, ρ1)
          | none => none
        | none => none
      | _ => none
    | none => none
  | _ => none := by rfl
@[simp] theorem x_eDinO (neg : Bool) (i : Nat) (fb : Fe) (ρ : Rho) : eDinO neg i fb ρ = match fb ρ with
  | some (y, ρ1) => match ρ1[i]? with
    | some (some (.od kvs)) => match dKey y with
      | some k => some (.bl (if neg then !(dLook kvs k).isSome else (dLook kvs k).isSome), ρ1)
      | none => none
    | _ => none
  | none => none := by rfl
@[simp] theorem x_eStIx (i : Nat) (j : Int) (ρ : Rho) : eStIx i j ρ = match ρ[i]? with
  | some (some (.st S)) => match stGet S j with
    | some d => some (d, ρ)
    | none => none
  | _ => none := by rfl
@[simp] theorem x_sStPut (i : Nat) (j : Int) (fa : Fe) (ρ : Rho) : sStPut i j fa ρ = match fa ρ with
  | some (.int n, ρ1) => match ρ1[i]? with
    | some (some (.st S)) => match stPut S j n with
      | some S' => some (.nx (setSt S' ρ1))
      | none => none
    | _ => none
  | _ => none := by rfl
@[simp] theorem x_eName (i : Nat) (ρ : Rho) : eName i ρ = freeze i ρ := rfl
@[simp] theorem x_eC (d : D) (ρ : Rho) : eC d ρ = some (d, ρ) := by rfl
@[simp] theorem x_e2 (g : D → D → Option D) (fa fb : Fe) (ρ : Rho) : e2 g fa fb ρ = match fa ρ with
  | some (x, ρ1) => match fb ρ1 with
    | some (y, ρ2) => match g x y with
      | some d => some (d, ρ2)
      | none => none
    | none => none
  | none => none := by rfl
@[simp] theorem x_e1 (g : D → Option D) (fa : Fe) (ρ : Rho) : e1 g fa ρ = match fa ρ with
  | some (x, ρ1) => match g x with
    | some d => some (d, ρ1)
    | none => none
  | none => none := by rfl
@[simp] theorem x_eN (g : List D → Option D) (fa : Fa) (ρ : Rho) : eN g fa ρ = match fa ρ with
  | some (x, ρ1) => match g x with
    | some d => some (d, ρ1)
    | none => none
  | none => none := by rfl
@[simp] theorem x_eChain (g g' : D → D → Option D) (fa fb fc : Fe) (ρ : Rho) : eChain g g' fa fb fc ρ = match fa ρ with
  | some (x, ρ1) => match fb ρ1 with
    | some (y, ρ2) => match g x y with
      | some (.bl true) => match fc ρ2 with
        | some (z, ρ3) => match g' y z with
          | some d => some (d, ρ3)
          | none => none
        | none => none
      | some (.bl false) => some (.bl false, ρ2)
      | _ => none
    | none => none
  | none => none := by rfl
@[simp] theorem x_eAnd (fa fb : Fe) (ρ : Rho) : eAnd fa fb ρ = match fa ρ with
  | some (.bl true, ρ1) => fb ρ1
  | some (.bl false, ρ1) => some (.bl false, ρ1)
  | _ => none := by rfl
@[simp] theorem x_eOr (fa fb : Fe) (ρ : Rho) : eOr fa fb ρ = match fa ρ with
  | some (.bl true, ρ1) => some (.bl true, ρ1)
  | some (.bl false, ρ1) => fb ρ1
  | _ => none := by rfl
@[simp] theorem x_eIf (ft : Ft) (fa fb : Fe) (ρ : Rho) : eIf ft fa fb ρ = match ft ρ with
  | some (true, ρ1) => fa ρ1
  | some (false, ρ1) => fb ρ1
  | none => none := by rfl
@[simp] theorem x_tE (fa : Fe) (ρ : Rho) : tE fa ρ = match fa ρ with
  | some (x, ρ1) => match dTru x with
    | some k => some (k, ρ1)
    | none => none
  | none => none := by rfl
@[simp] theorem x_tNotp (ft : Ft) (ρ : Rho) : tNot' ft ρ = match ft ρ with
  | some (k, ρ1) => some (!k, ρ1)
  | none => none := by rfl
@[simp] theorem x_tAndp (fa fb : Ft) (ρ : Rho) : tAnd' fa fb ρ = match fa ρ with
  | some (true, ρ1) => fb ρ1
  | some (false, ρ1) => some (false, ρ1)
  | none => none := by rfl
@[simp] theorem x_tOrp (fa fb : Ft) (ρ : Rho) : tOr' fa fb ρ = match fa ρ with
  | some (true, ρ1) => some (true, ρ1)
  | some (false, ρ1) => fb ρ1
  | none => none := by rfl
@[simp] theorem x_tYesp (ρ : Rho) : tYes'  ρ = some (true, ρ) := by rfl
@[simp] theorem x_tBl (fa : Fe) (ρ : Rho) : tBl fa ρ = match fa ρ with
  | some (.bl k, ρ1) => some (k, ρ1)
  | _ => none := by rfl
@[simp] theorem x_aNil (ρ : Rho) : aNil  ρ = some ([], ρ) := by rfl
@[simp] theorem x_aCons (fa : Fe) (fr : Fa) (ρ : Rho) : aCons fa fr ρ = match fa ρ with
  | some (x, ρ1) => match fr ρ1 with
    | some (xs, ρ2) => some (x :: xs, ρ2)
    | none => none
  | none => none := by rfl
@[simp] theorem x_eCall (n : Nat) (f : List D → Option D) (fa : Fa) (ρ : Rho) : eCall n f fa ρ = match fa ρ with
  | some (ds, ρ1) => if ds.length = n then match f ds with
      | some d => some (d, ρ1)
      | none => none
    else none
  | none => none := by rfl
@[simp] theorem x_iRange (fa : Fe) (ρ : Rho) : iRange fa ρ = match fa ρ with
  | some (.int j, ρ1) => if j ≤ 1000 ∧ -1000 ≤ j then some (rangeD 0 j.toNat, ρ1) else none
  | _ => none := by rfl
@[simp] theorem x_iSeq (fa : Fe) (ρ : Rho) : iSeq fa ρ = match fa ρ with
  | some (.tup ds, ρ1) => some (ds, ρ1)
  | some (.lst ds, ρ1) => some (ds, ρ1)
  | _ => none := by rfl
@[simp] theorem x_iZip (fa fb : Fe) (ρ : Rho) : iZip fa fb ρ = match fa ρ with
  | some (.tup xs, ρ1) => match fb ρ1 with
    | some (.tup ys, ρ2) => some (zipD xs ys, ρ2)
    | _ => none
  | _ => none := by rfl
@[simp] theorem x_iEnumT (fa : Fe) (ρ : Rho) : iEnumT fa ρ = match fa ρ with
  | some (.tup xs, ρ1) => some (enumD xs, ρ1)
  | _ => none := by rfl
theorem x_sFor (kill : List Nat) (fi : Fi) (g : Fg) (f : Fs) (ρ : Rho) : sFor kill fi g f ρ = match fi ρ with
  | some (ds, ρ1) => loopR (turnR kill g f) ds (wipeR ρ1 kill)
  | none => none := by rfl
theorem x_sForK (kill : List Nat) (i : Nat) (g : Fg) (f : Fs) (ρ : Rho) : sForK kill i g f ρ = match freeze i ρ with
  | some (.dct kvs, ρ1) => loopR (turnR kill g f) (kvs.map fun kv => keyD kv.1) (wipeR ρ1 kill)
  | _ => none := by rfl
theorem x_sSetDc (i : Nat) (vs : List Nat) (fi : Fi) (g : Fg) (fk fv : Fe) (ρ : Rho) : sSetDc i vs fi g fk fv ρ = match fi ρ with
  | some (ds, ρ1) => match dcompR vs g fk fv ds [] (wipeR ρ1 vs) with
    | some (kvs, ρ2) => some (.nx (ρ2.set i (some (.od kvs))))
    | none => none
  | none => none := by rfl
theorem x_sSetDcK (i j : Nat) (vs : List Nat) (g : Fg) (fk fv : Fe) (ρ : Rho) : sSetDcK i j vs g fk fv ρ = match freeze j ρ with
  | some (.dct kvs, ρ1) => match dcompR vs g fk fv (kvs.map fun kv => keyD kv.1) [] (wipeR ρ1 vs) with
    | some (kvs, ρ2) => some (.nx (ρ2.set i (some (.od kvs))))
    | none => none
  | _ => none := by rfl
theorem x_eComp (vs : List Nat) (fi : Fi) (g : Fg) (ft : Ft) (fe : Fe) (ρ : Rho) : eComp vs fi g ft fe ρ = match fi ρ with
  | some (ds, ρ1) => match compR vs g ft fe ds [] (wipeR ρ1 vs) with
    | some (ys, ρ2) => some (.lst ys, ρ2)
    | none => none
  | none => none := by rfl
theorem x_sFrz (i : Nat) (f : Fs) (ρ : Rho) : sFrz i f ρ = match f ρ with
  | some (.nx ρ1) => match freeze i ρ1 with
    | some (_, ρ2) => some (.nx ρ2)
    | none => none
  | r => r := by rfl
@[simp] theorem x_oNone (ρ : Rho) : oNone  ρ = some (none, ρ) := by rfl
@[simp] theorem x_oSome (fa : Fe) (ρ : Rho) : oSome fa ρ = match fa ρ with
  | some (.int i, ρ1) => some (some i, ρ1)
  | _ => none := by rfl
@[simp] theorem x_eSl (fa : Fe) (fl fh : Fo) (ρ : Rho) : eSl fa fl fh ρ = match fa ρ with
  | some (.tup ds, ρ1) => match fl ρ1 with
    | some (lo, ρ2) => match fh ρ2 with
      | some (hi, ρ3) => some (.tup (cutD ds lo hi), ρ3)
      | none => none
    | none => none
  | _ => none := by rfl
@[simp] theorem x_turnR (kill : List Nat) (g : Fg) (f : Fs) (d : D) (ρ : Rho) : turnR kill g f d ρ = match g d ρ with
  | some ρ1 => match f ρ1 with
    | some (.nx ρ2) => some (.nx (wipeR ρ2 kill))
    | some (.rt x ρ2) => some (.rt x ρ2)
    | none => none
  | none => none := by rfl

theorem x_eCallS (i n : Nat) (f : Strm → List D → Option (D × Strm)) (fa : Fa) (ρ : Rho) : eCallS i n f fa ρ = match ρ[i]? with
  | some (some (.st _)) => match fa ρ with
    | some (ds, ρ1) => match ρ1[i]? with
      | some (some (.st S)) => if ds.length = n then match f S ds with
          | some (d, S') => some (d, setSt S' ρ1)
          | none => none
        else none
      | _ => none
    | none => none
  | _ => none := by rfl
@[simp] theorem x_wnil (ρ : Rho) : wipeR ρ [] = ρ := rfl
@[simp] theorem x_wcons (ρ : Rho) (v : Nat) (vs : List Nat) : wipeR ρ (v :: vs) = (wipeR ρ vs).set v none := rfl
@[simp] theorem x_gI (f : Int → Int → Int) (i j : Int) : gI f (.int i) (.int j) = some (.int (f i j)) := rfl
@[simp] theorem x_gB (f : Int → Int → Bool) (i j : Int) : gB f (.int i) (.int j) = some (.bl (f i j)) := rfl
@[simp] theorem x_gAddI (i j : Int) : gAdd (.int i) (.int j) = some (.int (i + j)) := rfl
@[simp] theorem x_gAddT (xs ys : List D) : gAdd (.tup xs) (.tup ys) = if xs.length + ys.length ≤ 1000 then some (.tup (xs ++ ys)) else none := rfl
@[simp] theorem x_gNot (b : Bool) : gNot (.bl b) = some (.bl !b) := rfl
@[simp] theorem x_gTup (ds : List D) : gTup ds = if ds.length ≤ 1000 then some (.tup ds) else none := rfl
@[simp] theorem x_gLst (ds : List D) : gLst ds = if ds.length ≤ 1000 then some (.lst ds) else none := rfl
@[simp] theorem x_gIsN (d : D) : gIsN d = some (.bl (isNon d)) := rfl
@[simp] theorem x_gNotN (d : D) : gNotN d = some (.bl (!isNon d)) := rfl
@[simp] theorem x_isNon0 : isNon .non = true := rfl
@[simp] theorem x_isNon1 (b : Bool) : isNon (.bl b) = false := rfl
@[simp] theorem x_isNon2 (b : Int) : isNon (.int b) = false := rfl
@[simp] theorem x_isNon3 (b : Str) : isNon (.str b) = false := rfl
@[simp] theorem x_isNon4 (b : List D) : isNon (.tup b) = false := rfl
@[simp] theorem x_isNon5 (b : List D) : isNon (.lst b) = false := rfl
@[simp] theorem x_lenT (ds : List D) : gLen [.tup ds] = some (.int ds.length) := rfl
@[simp] theorem x_lenL (ds : List D) : gLen [.lst ds] = some (.int ds.length) := rfl
@[simp] theorem x_gIx1 (ds : List D) (i : Int) : gIx (.tup ds) (.int i) = atI ds i := rfl
@[simp] theorem x_gIx2 (ds : List D) (i : Int) : gIx (.lst ds) (.int i) = atI ds i := rfl
@[simp] theorem x_atI0 (x : D) (ds : List D) : atI (x :: ds) 0 = some x := by
  unfold atI ixN
  rw [if_pos (Int.le_refl 0), if_pos (by simp only [List.length_cons]; omega)]
  rfl
@[simp] theorem x_atI1 (x y : D) (ds : List D) : atI (x :: y :: ds) 1 = some y := by
  unfold atI ixN
  rw [if_pos (by decide), if_pos (by simp only [List.length_cons]; omega)]
  rfl
@[simp] theorem x_atI2 (x y z : D) (ds : List D) : atI (x :: y :: z :: ds) 2 = some z := by
  unfold atI ixN
  rw [if_pos (by decide), if_pos (by simp only [List.length_cons]; omega)]
  rfl
@[simp] theorem x_atI3 (x y z w : D) (ds : List D) : atI (x :: y :: z :: w :: ds) 3 = some w := by
  unfold atI ixN
  rw [if_pos (by decide), if_pos (by simp only [List.length_cons]; omega)]
  rfl
theorem atI_nat {α : Type} (ds : List α) (k : Nat) : atI ds (k : Int) = ds[k]? := by
  unfold atI ixN
  rw [if_pos (by omega)]
  by_cases h : k < ds.length
  · rw [if_pos (by omega)]
    rfl
  · rw [if_neg (by omega), List.getElem?_eq_none (by omega)]
    rfl
theorem atI_of {α : Type} (ds : List α) {i : Int} (h : 0 ≤ i) : atI ds i = ds[i.toNat]? := by
  rw [← atI_nat, Int.toNat_of_nonneg h]
theorem ev_get {n : Nat} {i : Int} (h : Rg n i) : (ev n)[i.toNat]? = some i := by
  unfold ev
  rw [List.getElem?_map, List.getElem?_range (by have := h.1; have := h.2; omega)]
  simp [Int.toNat_of_nonneg h.1]
/-- a list over the events, at an event -/
theorem atI_ev {n : Nat} {i : Int} (h : Rg n i) (f : Int → D) : atI ((ev n).map f) i = some (f i) := by
  rw [atI_of _ h.1, List.getElem?_map, ev_get h]
  rfl
theorem rangeD_ev (n : Nat) : rangeD 0 n = (ev n).map D.int := by
  unfold rangeD ev
  rw [List.map_map]
  refine List.map_congr_left fun k _ => ?_
  simp
@[simp] theorem x_isi1 (g : D → Bool) : gIsi g .non = some (.bl (g .non)) := rfl
@[simp] theorem x_isi2 (g : D → Bool) (b : Bool) : gIsi g (.bl b) = some (.bl (g (.bl b))) := rfl
@[simp] theorem x_isi3 (g : D → Bool) (b : Int) : gIsi g (.int b) = some (.bl (g (.int b))) := rfl
@[simp] theorem x_isi4 (g : D → Bool) (b : Str) : gIsi g (.str b) = some (.bl (g (.str b))) := rfl
@[simp] theorem x_isi5 (g : D → Bool) (b : List D) : gIsi g (.tup b) = some (.bl (g (.tup b))) := rfl
@[simp] theorem x_isi6 (g : D → Bool) (b : List D) : gIsi g (.lst b) = some (.bl (g (.lst b))) := rfl
@[simp] theorem x_ki1 : isIntD .non = false := rfl
@[simp] theorem x_ki2 (b : Bool) : isIntD (.bl b) = true := rfl
@[simp] theorem x_ki3 (b : Int) : isIntD (.int b) = true := rfl
@[simp] theorem x_ki4 (b : Str) : isIntD (.str b) = false := rfl
@[simp] theorem x_ki5 (b : List D) : isIntD (.tup b) = false := rfl
@[simp] theorem x_ki6 (b : List D) : isIntD (.lst b) = false := rfl
@[simp] theorem x_kb1 : isBlD .non = false := rfl
@[simp] theorem x_kb2 (b : Bool) : isBlD (.bl b) = true := rfl
@[simp] theorem x_kb3 (b : Int) : isBlD (.int b) = false := rfl
@[simp] theorem x_kb4 (b : Str) : isBlD (.str b) = false := rfl
@[simp] theorem x_kb5 (b : List D) : isBlD (.tup b) = false := rfl
@[simp] theorem x_kb6 (b : List D) : isBlD (.lst b) = false := rfl
@[simp] theorem x_ks1 : isStrD .non = false := rfl
@[simp] theorem x_ks2 (b : Bool) : isStrD (.bl b) = false := rfl
@[simp] theorem x_ks3 (b : Int) : isStrD (.int b) = false := rfl
@[simp] theorem x_ks4 (b : Str) : isStrD (.str b) = true := rfl
@[simp] theorem x_ks5 (b : List D) : isStrD (.tup b) = false := rfl
@[simp] theorem x_ks6 (b : List D) : isStrD (.lst b) = false := rfl
@[simp] theorem x_kt1 : isTupD .non = false := rfl
@[simp] theorem x_kt2 (b : Bool) : isTupD (.bl b) = false := rfl
@[simp] theorem x_kt3 (b : Int) : isTupD (.int b) = false := rfl
@[simp] theorem x_kt4 (b : Str) : isTupD (.str b) = false := rfl
@[simp] theorem x_kt5 (b : List D) : isTupD (.tup b) = true := rfl
@[simp] theorem x_kt6 (b : List D) : isTupD (.lst b) = false := rfl
@[simp] theorem x_kl1 : isLstD .non = false := rfl
@[simp] theorem x_kl2 (b : Bool) : isLstD (.bl b) = false := rfl
@[simp] theorem x_kl3 (b : Int) : isLstD (.int b) = false := rfl
@[simp] theorem x_kl4 (b : Str) : isLstD (.str b) = false := rfl
@[simp] theorem x_kl5 (b : List D) : isLstD (.tup b) = false := rfl
@[simp] theorem x_kl6 (b : List D) : isLstD (.lst b) = true := rfl
@[simp] theorem x_tr0 : dTru .non = some false := rfl
@[simp] theorem x_tr1 (b : Bool) : dTru (.bl b) = some b := rfl
@[simp] theorem x_tr2 (b : List D) : dTru (.tup b) = some (!b.isEmpty) := rfl
@[simp] theorem x_tr3 (b : List D) : dTru (.lst b) = some (!b.isEmpty) := rfl
@[simp] theorem x_gd (kvs : List ((Int × Int) × D)) (i j : Int) : gDget (.dct kvs) (.tup [.int i, .int j]) = nLook kvs (i, j) := rfl
@[simp] theorem x_dk (i j : Int) : dKey (.tup [.int i, .int j]) = some (i, j) := rfl
@[simp] theorem x_gdin0 (kvs : List ((Int × Int) × D)) (i j : Int) : gDin false (.tup [.int i, .int j]) (.dct kvs) = some (.bl (nLook kvs (i, j)).isSome) := rfl
@[simp] theorem x_gdin1 (kvs : List ((Int × Int) × D)) (i j : Int) : gDin true (.tup [.int i, .int j]) (.dct kvs) = some (.bl (!(nLook kvs (i, j)).isSome)) := rfl
@[simp] theorem x_dl (kvs : List ((Int × Int) × D)) (p : Int × Int) : dLook kvs p = nLook kvs p := rfl
@[simp] theorem x_dp (kvs : List ((Int × Int) × D)) (p : Int × Int) (d : D) : dPut kvs p d = nPut kvs p d := rfl
@[simp] theorem x_max2 (i j : Int) : gMax2 [.int i, .int j] = some (.int (max i j)) := by
  unfold gMax2
  have : (if j > i then j else i) = max i j := by
    split <;> omega
  simp only [this]
@[simp] theorem x_min2 (i j : Int) : gMin2 [.int i, .int j] = some (.int (min i j)) := by
  unfold gMin2
  have : (if j < i then j else i) = min i j := by
    split <;> omega
  simp only [this]
@[simp] theorem x_gint1 (i : Int) : gInt [.int i] = some (.int i) := rfl
@[simp] theorem x_gint2 (b : Bool) : gInt [.bl b] = some (.int (if b then 1 else 0)) := rfl
@[simp] theorem x_tupof1 (ds : List D) : gTupOf [.tup ds] = some (.tup ds) := rfl
@[simp] theorem x_tupof2 (ds : List D) : gTupOf [.lst ds] = some (.tup ds) := rfl
@[simp] theorem x_lstof1 (ds : List D) : gLstOf [.tup ds] = some (.lst ds) := rfl
@[simp] theorem x_lstof2 (ds : List D) : gLstOf [.lst ds] = some (.lst ds) := rfl
@[simp] theorem x_abs (i : Int) : gAbs [.int i] = some (.int (if i < 0 then -i else i)) := rfl
@[simp] theorem x_rev (ds : List D) : gRev (.tup ds) = some (.tup ds.reverse) := rfl
@[simp] theorem x_allB (bs : List Bool) : gAll [.lst (bs.map D.bl)] = some (.bl (bs.all id)) := by
  show (match dBools (bs.map D.bl) with | some bs => _ | none => none) = _
  rw [dBools_map]
@[simp] theorem x_anyB (bs : List Bool) : gAny [.lst (bs.map D.bl)] = some (.bl (bs.any id)) := by
  show (match dBools (bs.map D.bl) with | some bs => _ | none => none) = _
  rw [dBools_map]
@[simp] theorem x_sumI (ns : List Int) : gSum [.lst (ns.map D.int)] = some (.int ns.sum) := by
  show (match dInts (ns.map D.int) with | some bs => _ | none => none) = _
  rw [dInts_map]
@[simp] theorem x_maxI (n : Int) (ns : List Int) : gMaxL [.lst ((n :: ns).map D.int)] = some (.int (maxL n ns)) := by
  show (match dInts ((n :: ns).map D.int) with | some (n :: ns) => _ | _ => none) = _
  rw [dInts_map]
@[simp] theorem x_minI (n : Int) (ns : List Int) : gMinL [.lst ((n :: ns).map D.int)] = some (.int (minL n ns)) := by
  show (match dInts ((n :: ns).map D.int) with | some (n :: ns) => _ | _ => none) = _
  rw [dInts_map]
@[simp] theorem x_inT0 (i : Int) (ns : List Int) : gInS false (.int i) (.tup (ns.map D.int)) = some (.bl (ns.contains i)) := by
  show (match dInts (ns.map D.int) with | some ns => _ | none => none) = _
  rw [dInts_map]
  rfl
@[simp] theorem x_inT1 (i : Int) (ns : List Int) : gInS true (.int i) (.tup (ns.map D.int)) = some (.bl (!ns.contains i)) := by
  show (match dInts (ns.map D.int) with | some ns => _ | none => none) = _
  rw [dInts_map]
  rfl
@[simp] theorem x_inL0 (i : Int) (ns : List Int) : gInS false (.int i) (.lst (ns.map D.int)) = some (.bl (ns.contains i)) := by
  show (match dInts (ns.map D.int) with | some ns => _ | none => none) = _
  rw [dInts_map]
  rfl
@[simp] theorem x_inL1 (i : Int) (ns : List Int) : gInS true (.int i) (.lst (ns.map D.int)) = some (.bl (!ns.contains i)) := by
  show (match dInts (ns.map D.int) with | some ns => _ | none => none) = _
  rw [dInts_map]
  rfl

/-! ### equality of data -/
@[simp] theorem x_eqII (i j : Int) : gEqv false (.int i) (.int j) = some (.bl (decide (i = j))) := by
  rfl
@[simp] theorem x_neII (i j : Int) : gEqv true (.int i) (.int j) = some (.bl (!decide (i = j))) := by
  rfl

/-! ### runs -/
def Ret (r : Option Res) (d : D) : Prop := ∃ ρ, r = some (.rt d ρ)
theorem run_ret {N n : Nat} {fb : Fs} {ds : List D} {d : D} (h : Ret (fb (slots N n ds)) d) : runD N n fb ds = some d := by
  obtain ⟨ρ, h⟩ := h
  unfold runD
  rw [h]
theorem run_nx {N n : Nat} {fb : Fs} {ds : List D} {ρ : Rho} (h : fb (slots N n ds) = some (.nx ρ)) : runD N n fb ds = some .non := by
  unfold runD
  rw [h]
theorem Ret.nx {f g : Fs} {ρ ρ1 : Rho} {d : D} (h : f ρ = some (.nx ρ1)) (h2 : Ret (g ρ1) d) : Ret (sCons f g ρ) d := by
  rw [x_sCons, h]
  exact h2
theorem Ret.rt {f g : Fs} {ρ : Rho} {d : D} (h : Ret (f ρ) d) : Ret (sCons f g ρ) d := by
  obtain ⟨ρ', h⟩ := h
  exact ⟨ρ', by rw [x_sCons, h]⟩
theorem Ret.e {fa : Fe} {ρ ρ1 : Rho} {d : D} (h : fa ρ = some (d, ρ1)) : Ret (sRet fa ρ) d := ⟨ρ1, by rw [x_sRet, h]⟩
theorem nx_cons {f g : Fs} {ρ ρ1 : Rho} {r : Option Res} (h : f ρ = some (.nx ρ1)) (h2 : g ρ1 = r) : sCons f g ρ = r := by
  rw [x_sCons, h]
  exact h2

/-! ### loops and comprehensions -/
theorem loop_fold {α S : Type} {kill : List Nat} {g : Fg} {f : Fs} (enc : α → D) (R : S → Rho) (step : S → α → S) (Inv : S → Prop) :
    ∀ (l : List α) (s : S), Inv s → (∀ s a, a ∈ l → Inv s → turnR kill g f (enc a) (R s) = some (.nx (R (step s a)))) → (∀ s a, a ∈ l → Inv s → Inv (step s a)) → loopR (turnR kill g f) (l.map enc) (R s) = some (.nx (R (l.foldl step s)))
  | [], s, _, _, _ => rfl
  | a :: l, s, hs, h, hi => by
    rw [List.map_cons]
    unfold loopR
    rw [h s a (List.mem_cons_self ..) hs]
    exact loop_fold enc R step Inv l _ (hi s a (List.mem_cons_self ..) hs) (fun s b hb => h s b (List.mem_cons_of_mem _ hb)) fun s b hb => hi s b (List.mem_cons_of_mem _ hb)
theorem for_fold {α S : Type} {kill : List Nat} {g : Fg} {f : Fs} {fi : Fi} {ρ : Rho} (l : List α) (enc : α → D) (R : S → Rho) (step : S → α → S) (Inv : S → Prop) (s : S)
    (hi : fi ρ = some (l.map enc, ρ)) (h0 : wipeR ρ kill = R s) (I0 : Inv s) (h : ∀ s a, a ∈ l → Inv s → turnR kill g f (enc a) (R s) = some (.nx (R (step s a)))) (hv : ∀ s a, a ∈ l → Inv s → Inv (step s a)) : sFor kill fi g f ρ = some (.nx (R (l.foldl step s))) := by
  rw [x_sFor, hi]
  show loopR _ _ (wipeR ρ kill) = _
  rw [h0]
  exact loop_fold enc R step Inv l s I0 h hv
theorem foldl_inv {α S : Type} (step : S → α → S) (Inv : S → Prop) : ∀ (l : List α) (s : S), Inv s → (∀ s a, a ∈ l → Inv s → Inv (step s a)) → Inv (l.foldl step s)
  | [], s, h, _ => h
  | a :: l, s, h, hs => foldl_inv step Inv l _ (hs s a (List.mem_cons_self ..) h) fun s b hb => hs s b (List.mem_cons_of_mem _ hb)
theorem forK_fold {α S : Type} {kill : List Nat} {g : Fg} {f : Fs} {i : Nat} {ρ : Rho} {kvs : List ((Int × Int) × D)} (l : List α) (enc : α → D) (R : S → Rho) (step : S → α → S) (Inv : S → Prop) (s : S)
    (hi : freeze i ρ = some (.dct kvs, ρ)) (hl : (kvs.map fun kv => keyD kv.1) = l.map enc) (h0 : wipeR ρ kill = R s) (I0 : Inv s) (h : ∀ s a, a ∈ l → Inv s → turnR kill g f (enc a) (R s) = some (.nx (R (step s a)))) (hv : ∀ s a, a ∈ l → Inv s → Inv (step s a)) : sForK kill i g f ρ = some (.nx (R (l.foldl step s))) := by
  rw [x_sForK, hi]
  show loopR _ _ (wipeR ρ kill) = _
  rw [h0, hl]
  exact loop_fold enc R step Inv l s I0 h hv
def cstep (vs : List Nat) (g : Fg) (ft : Ft) (fe : Fe) (d : D) (ρ : Rho) : Option (Option D × Rho) := match g d ρ with
  | some ρ1 => match ft ρ1 with
    | some (true, ρ2) => match fe ρ2 with
      | some (y, ρ3) => some (some y, wipeR ρ3 vs)
      | none => none
    | some (false, ρ2) => some (none, wipeR ρ2 vs)
    | none => none
  | none => none
theorem cstep_inv {vs : List Nat} {g : Fg} {ft : Ft} {fe : Fe} {d : D} {ρ R : Rho} {o : Option D} (h : cstep vs g ft fe d ρ = some (o, R)) :
    (∃ ρ1 ρ2 y ρ3, g d ρ = some ρ1 ∧ ft ρ1 = some (true, ρ2) ∧ fe ρ2 = some (y, ρ3) ∧ o = some y ∧ wipeR ρ3 vs = R) ∨ (∃ ρ1 ρ2, g d ρ = some ρ1 ∧ ft ρ1 = some (false, ρ2) ∧ o = none ∧ wipeR ρ2 vs = R) := by
  unfold cstep at h
  cases e1 : g d ρ with
  | none =>
    rw [e1] at h
    cases h
  | some ρ1 =>
    rw [e1] at h
    simp only at h
    cases e2 : ft ρ1 with
    | none =>
      rw [e2] at h
      cases h
    | some p =>
      obtain ⟨b, ρ2⟩ := p
      rw [e2] at h
      cases b with
      | false =>
        simp only [Option.some.injEq, Prod.mk.injEq] at h
        exact .inr ⟨ρ1, ρ2, rfl, e2, h.1.symm, h.2⟩
      | true =>
        simp only at h
        cases e3 : fe ρ2 with
        | none =>
          rw [e3] at h
          cases h
        | some q =>
          obtain ⟨y, ρ3⟩ := q
          rw [e3] at h
          simp only [Option.some.injEq, Prod.mk.injEq] at h
          exact .inl ⟨ρ1, ρ2, y, ρ3, rfl, e2, e3, h.1.symm, h.2⟩
theorem comp_fm {α : Type} {vs : List Nat} {g : Fg} {ft : Ft} {fe : Fe} (enc : α → D) (out : α → Option D) (R : Rho) : ∀ (l : List α) (acc : List D), (∀ a ∈ l, cstep vs g ft fe (enc a) R = some (out a, R)) → compR vs g ft fe (l.map enc) acc R = some (acc ++ l.filterMap out, R)
  | [], acc, _ => by simp [compR]
  | a :: l, acc, h => by
    have ih := fun acc => comp_fm (vs := vs) (g := g) (ft := ft) (fe := fe) enc out R l acc fun b hb => h b (List.mem_cons_of_mem _ hb)
    rw [List.map_cons]
    unfold compR
    rcases cstep_inv (h a (List.mem_cons_self ..)) with ⟨ρ1, ρ2, y, ρ3, e1, e2, e3, e4, e5⟩ | ⟨ρ1, ρ2, e1, e2, e4, e5⟩
    · simp only [e1, e2, e3, e5, ih]
      simp [e4]
    · simp only [e1, e2, e5, ih]
      simp [e4]
theorem eComp_fm {α : Type} {vs : List Nat} {g : Fg} {ft : Ft} {fe : Fe} {fi : Fi} {ρ : Rho} (l : List α) (enc : α → D) (out : α → Option D) (R : Rho) (hi : fi ρ = some (l.map enc, ρ)) (h0 : wipeR ρ vs = R) (h : ∀ a ∈ l, cstep vs g ft fe (enc a) R = some (out a, R)) :
    eComp vs fi g ft fe ρ = some (.lst (l.filterMap out), R) := by
  rw [x_eComp, hi]
  show (match compR vs g ft fe (l.map enc) [] (wipeR ρ vs) with | some (ys, ρ2) => _ | none => none) = _
  rw [h0, comp_fm enc out R l [] h]
  rfl
theorem eComp_map {α : Type} {vs : List Nat} {g : Fg} {ft : Ft} {fe : Fe} {fi : Fi} {ρ : Rho} (l : List α) (enc : α → D) (out : α → D) (R : Rho) (hi : fi ρ = some (l.map enc, ρ)) (h0 : wipeR ρ vs = R) (h : ∀ a ∈ l, cstep vs g ft fe (enc a) R = some (some (out a), R)) :
    eComp vs fi g ft fe ρ = some (.lst (l.map out), R) := by
  rw [eComp_fm l enc (fun a => some (out a)) R hi h0 h, List.filterMap_eq_map']
theorem freeze_fz {i : Nat} {ρ : Rho} {d : D} (h : ρ[i]? = some (some (.fz d))) : freeze i ρ = some (d, ρ) := by
  unfold freeze
  rw [h]
theorem freeze_ol {i : Nat} {ρ : Rho} {ds : List D} (h : ρ[i]? = some (some (.ol ds))) : freeze i ρ = some (.lst ds, ρ.set i (some (.fz (.lst ds)))) := by
  unfold freeze
  rw [h]
theorem freeze_od {i : Nat} {ρ : Rho} {ds : List ((Int × Int) × D)} (h : ρ[i]? = some (some (.od ds))) : freeze i ρ = some (.dct ds, ρ.set i (some (.fz (.dct ds)))) := by
  unfold freeze
  rw [h]
@[simp] theorem x_freeze (i : Nat) (ρ : Rho) : freeze i ρ = match (ρ[i]? : Option (Option Sl)) with
  | some (some (.fz d)) => some (d, ρ)
  | some (some (.ol ds)) => some (.lst ds, ρ.set i (some (.fz (.lst ds))))
  | some (some (.od kvs)) => some (.dct kvs, ρ.set i (some (.fz (.dct kvs))))
  | _ => none := by
  unfold freeze
  rfl
/-- loops with a count of the turns gone -/
theorem loop_cnt {α S : Type} {kill : List Nat} {g : Fg} {f : Fs} (enc : α → D) (R : S → Rho) (step : S → α → S) (Inv : Nat → S → Prop) (m : Nat) :
    ∀ (l : List α) (k : Nat) (s : S), k + l.length = m → Inv k s → (∀ k s a, a ∈ l → k < m → Inv k s → turnR kill g f (enc a) (R s) = some (.nx (R (step s a)))) → (∀ k s a, a ∈ l → k < m → Inv k s → Inv (k + 1) (step s a)) →
    loopR (turnR kill g f) (l.map enc) (R s) = some (.nx (R (l.foldl step s))) ∧ Inv m (l.foldl step s)
  | [], k, s, hk, hs, _, _ => ⟨rfl, by rw [← hk]; exact hs⟩
  | a :: l, k, s, hk, hs, h, hi => by
    rw [List.map_cons]
    unfold loopR
    simp only [List.length_cons] at hk
    rw [h k s a (List.mem_cons_self ..) (by omega) hs]
    exact loop_cnt enc R step Inv m l (k + 1) _ (by omega) (hi k s a (List.mem_cons_self ..) (by omega) hs) (fun k s b hb => h k s b (List.mem_cons_of_mem _ hb)) fun k s b hb => hi k s b (List.mem_cons_of_mem _ hb)
theorem for_cnt {α S : Type} {kill : List Nat} {g : Fg} {f : Fs} {fi : Fi} {ρ : Rho} (l : List α) (enc : α → D) (R : S → Rho) (step : S → α → S) (Inv : Nat → S → Prop) (s : S)
    (hi : fi ρ = some (l.map enc, ρ)) (h0 : wipeR ρ kill = R s) (I0 : Inv 0 s) (h : ∀ k s a, a ∈ l → k < l.length → Inv k s → turnR kill g f (enc a) (R s) = some (.nx (R (step s a)))) (hv : ∀ k s a, a ∈ l → k < l.length → Inv k s → Inv (k + 1) (step s a)) : sFor kill fi g f ρ = some (.nx (R (l.foldl step s))) := by
  rw [x_sFor, hi]
  show loopR _ _ (wipeR ρ kill) = _
  rw [h0]
  exact (loop_cnt enc R step Inv l.length l 0 s (by omega) I0 h hv).1
/-- loops of which only a relation is known -/
theorem loop_rel {α S : Type} {kill : List Nat} {g : Fg} {f : Fs} (enc : α → D) (R : S → Rho) (Inv : Nat → S → Prop) (m : Nat) :
    ∀ (l : List α) (k : Nat) (s : S), k + l.length = m → Inv k s → (∀ k s a, a ∈ l → k < m → Inv k s → ∃ s', turnR kill g f (enc a) (R s) = some (.nx (R s')) ∧ Inv (k + 1) s') →
    ∃ s', loopR (turnR kill g f) (l.map enc) (R s) = some (.nx (R s')) ∧ Inv m s'
  | [], k, s, hk, hs, _ => ⟨s, rfl, by rw [← hk]; exact hs⟩
  | a :: l, k, s, hk, hs, h => by
    rw [List.map_cons]
    unfold loopR
    simp only [List.length_cons] at hk
    obtain ⟨s1, h1, h2⟩ := h k s a (List.mem_cons_self ..) (by omega) hs
    rw [h1]
    exact loop_rel enc R Inv m l (k + 1) s1 (by omega) h2 fun k s b hb => h k s b (List.mem_cons_of_mem _ hb)
theorem for_rel {α S : Type} {kill : List Nat} {g : Fg} {f : Fs} {fi : Fi} {ρ : Rho} (l : List α) (enc : α → D) (R : S → Rho) (Inv : Nat → S → Prop) (s : S)
    (hi : fi ρ = some (l.map enc, ρ)) (h0 : wipeR ρ kill = R s) (I0 : Inv 0 s) (h : ∀ k s a, a ∈ l → k < l.length → Inv k s → ∃ s', turnR kill g f (enc a) (R s) = some (.nx (R s')) ∧ Inv (k + 1) s') : ∃ s', sFor kill fi g f ρ = some (.nx (R s')) ∧ Inv l.length s' := by
  rw [x_sFor, hi]
  show ∃ s', loopR _ _ (wipeR ρ kill) = _ ∧ _
  rw [h0]
  exact loop_rel enc R Inv l.length l 0 s (by omega) I0 h
theorem Ret.v {fa : Fe} {ρ : Rho} {d : D} (h : (fa ρ).map Prod.fst = some d) : Ret (sRet fa ρ) d := by
  cases e : fa ρ with
  | none =>
    rw [e] at h
    cases h
  | some p =>
    obtain ⟨x, ρ1⟩ := p
    rw [e] at h
    cases h
    exact ⟨ρ1, by rw [x_sRet, e]⟩
theorem Ret.vc {fa : Fe} {g : Fs} {ρ : Rho} {d : D} (h : (fa ρ).map Prod.fst = some d) : Ret (sCons (sRet fa) g ρ) d := Ret.rt (Ret.v h)
theorem run_sl {N n : Nat} {fb : Fs} {ds : List D} {d : D} (ρ : Rho) (e : slots N n ds = ρ) (h : Ret (fb ρ) d) : runD N n fb ds = some d := run_ret (e ▸ h)
@[simp] theorem x_slots (N n : Nat) (ds : List D) : slots N n ds = (ds.map fun d => some (Sl.fz d)) ++ List.replicate (N - n) none := rfl
theorem eN_v {g : List D → Option D} {fa : Fa} {ρ ρ1 : Rho} {ds : List D} {d : D} (h : fa ρ = some (ds, ρ1)) (hg : g ds = some d) : eN g fa ρ = some (d, ρ1) := by
  rw [x_eN, h]
  simp only [hg]
theorem e1_v {g : D → Option D} {fa : Fe} {ρ ρ1 : Rho} {x d : D} (h : fa ρ = some (x, ρ1)) (hg : g x = some d) : e1 g fa ρ = some (d, ρ1) := by
  rw [x_e1, h]
  simp only [hg]
theorem e2_v {g : D → D → Option D} {fa fb : Fe} {ρ ρ1 ρ2 : Rho} {x y d : D} (h : fa ρ = some (x, ρ1)) (h2 : fb ρ1 = some (y, ρ2)) (hg : g x y = some d) : e2 g fa fb ρ = some (d, ρ2) := by
  rw [x_e2, h]
  simp only [h2, hg]
theorem aNil_v {ρ : Rho} : aNil ρ = some ([], ρ) := rfl
theorem aCons_v {fa : Fe} {fr : Fa} {ρ ρ1 ρ2 : Rho} {d : D} {ds : List D} (h : fa ρ = some (d, ρ1)) (h2 : fr ρ1 = some (ds, ρ2)) : aCons fa fr ρ = some (d :: ds, ρ2) := by
  rw [x_aCons, h]
  simp only [h2]
theorem a1_v {fa : Fe} {ρ ρ1 : Rho} {d : D} (h : fa ρ = some (d, ρ1)) : aCons fa aNil ρ = some ([d], ρ1) := aCons_v h aNil_v
theorem eCall_v {n : Nat} {f : List D → Option D} {fa : Fa} {ρ ρ1 : Rho} {ds : List D} {d : D} (h : fa ρ = some (ds, ρ1)) (hn : ds.length = n) (hf : f ds = some d) : eCall n f fa ρ = some (d, ρ1) := by
  rw [x_eCall, h]
  simp only [hn, if_true, hf]
theorem eAnd_t {fa fb : Fe} {ρ ρ1 : Rho} {r : Option (D × Rho)} (h : fa ρ = some (.bl true, ρ1)) (h2 : fb ρ1 = r) : eAnd fa fb ρ = r := by
  rw [x_eAnd, h]
  exact h2
theorem eAnd_f {fa fb : Fe} {ρ ρ1 : Rho} (h : fa ρ = some (.bl false, ρ1)) : eAnd fa fb ρ = some (.bl false, ρ1) := by
  rw [x_eAnd, h]
theorem tE_v {fa : Fe} {ρ ρ1 : Rho} {d : D} {b : Bool} (h : fa ρ = some (d, ρ1)) (h2 : dTru d = some b) : tE fa ρ = some (b, ρ1) := by
  rw [x_tE, h]
  simp only [h2]
theorem tBl_v {fa : Fe} {ρ ρ1 : Rho} {b : Bool} (h : fa ρ = some (.bl b, ρ1)) : tBl fa ρ = some (b, ρ1) := by
  rw [x_tBl, h]
theorem sSet_v {i : Nat} {fa : Fe} {ρ ρ1 : Rho} {d : D} (h : fa ρ = some (d, ρ1)) : sSet i fa ρ = some (.nx (ρ1.set i (some (.fz d)))) := by
  rw [x_sSet, h]
theorem sIf_t {ft : Ft} {f g : Fs} {ρ ρ1 : Rho} {r : Option Res} (h : ft ρ = some (true, ρ1)) (h2 : f ρ1 = r) : sIf ft f g ρ = r := by
  rw [x_sIf, h]
  exact h2
theorem sIf_f {ft : Ft} {f g : Fs} {ρ ρ1 : Rho} {r : Option Res} (h : ft ρ = some (false, ρ1)) (h2 : g ρ1 = r) : sIf ft f g ρ = r := by
  rw [x_sIf, h]
  exact h2
theorem all_true {α : Type} (l : List α) : gAll [.lst (l.map fun _ => D.bl true)] = some (.bl true) := by
  have := x_allB (l.map fun _ => true)
  rw [List.map_map] at this
  rw [show (l.map fun _ => D.bl true) = l.map (D.bl ∘ fun _ => true) from rfl, this]
  simp
end Kx
set_option Elab.async false
set_option linter.all false
set_option maxRecDepth 100000
set_option maxHeartbeats 4000000
/-! nets as plain data; the smaller defs at nets -/
namespace Kx
open PySem PySem.Spec PyProof.Rows L2

def encO : Option Int → D
  | none => .non
  | some i => .int i
structure Rule where
  s : Int
  e : Int
  lo : Option Int
  hi : Option Int
def encR (r : Rule) : D := .tup [.int r.s, .int r.e, encO r.lo, encO r.hi]
def encN (n : Nat) (rs : List Rule) : D := .tup [.int n, .tup (rs.map encR)]
def edHi (k : Nat) (r : Rule) : List Ed := match r.hi with
  | some h => [⟨(k : Int), true, r.s, r.e, h⟩]
  | none => []
def edLo (k : Nat) (r : Rule) : List Ed := match r.lo with
  | some l => [⟨(k : Int), false, r.e, r.s, 0 - l⟩]
  | none => []
def edR (p : Rule × Nat) : List Ed := edHi p.2 p.1 ++ edLo p.2 p.1
def edges (rs : List Rule) : List Ed := rs.zipIdx.flatMap edR
def Ed.sd (e : Ed) : Str := if e.hi = true then "high" else "low"
def encK (e : Ed) : D := .tup [.int e.ix, .str e.sd]
def encE (e : Ed) : D := .tup [encK e, .int e.a, .int e.b, .int e.w]
def Wt (o : Option Int) : Prop := ∀ x, o = some x → -39 ≤ x ∧ x ≤ 39
structure OkR (n : Nat) (r : Rule) : Prop where
  s : Rg n r.s
  e : Rg n r.e
  ne : r.s ≠ r.e
  lo : Wt r.lo
  hi : Wt r.hi
  some : r.lo ≠ none ∨ r.hi ≠ none
structure OkN (n : Nat) (rs : List Rule) : Prop where
  n1 : 1 ≤ n
  n4 : n ≤ 4
  len : rs.length ≤ 6
  rl : ∀ r ∈ rs, OkR n r
theorem edR_len (p : Rule × Nat) : (edR p).length ≤ 2 := by
  unfold edR edHi edLo
  cases p.1.hi <;> cases p.1.lo <;> simp
theorem foldl_flat {α β : Type} (f : α → List β) : ∀ (l : List α) (s : List β), l.foldl (fun s a => s ++ f a) s = s ++ l.flatMap f
  | [], s => by simp
  | a :: l, s => by
    rw [List.foldl_cons, foldl_flat f l]
    simp
theorem edges_len (rs : List Rule) : (edges rs).length ≤ 2 * rs.length := by
  unfold edges
  have : ∀ l : List (Rule × Nat), (l.flatMap edR).length ≤ 2 * l.length := fun l => by
    induction l with
    | nil => simp
    | cons a l ih =>
      have := edR_len a
      simp only [List.flatMap_cons, List.length_append, List.length_cons]
      omega
  have h := this rs.zipIdx
  simpa using h
theorem enumD_map {α : Type} (enc : α → D) (l : List α) : enumD (l.map enc) = l.zipIdx.map fun p => D.tup [.int (p.2 : Nat), enc p.1] := by
  unfold enumD
  rw [List.zipIdx_map, List.map_map]
  rfl
theorem e_edges_of {n : Nat} {rs : List Rule} (h : rs.length ≤ 12) : F_edges_of [encN n rs] = some (.lst ((edges rs).map encE)) := by
  unfold F_edges_of b_edges_of
  refine run_ret (Ret.nx (ρ1 := [some (.fz (encN n rs)), some (.ol []), none, none, none, none, none, none]) (by simp [slots]) (Ret.nx (for_cnt rs.zipIdx (fun p => D.tup [.int (p.2 : Nat), encR p.1]) (fun s : List Ed => [some (.fz (encN n rs)), some (.ol (s.map encE)), none, none, none, none, none, none]) (fun s p => s ++ edR p) (fun k s => s.length ≤ 2 * k) []
    (by simp [encN, enumD_map]) (by simp [encN]) (by simp) ?_ ?_) (Ret.rt ?_)))
  · intro k s p hp hk hs
    obtain ⟨⟨a, b, lo, hi⟩, i⟩ := p
    simp at hk
    have h1 : s.length < 1000 := by omega
    have h2 : s.length + 1 < 1000 := by omega
    cases lo <;> cases hi <;> simp [encR, encO, edR, edHi, edLo, encE, encK, Ed.sd, h1, h2]
  · intro k s p hp hk hs
    have := edR_len p
    simp only [List.length_append]
    omega
  · rw [foldl_flat]
    exact Ret.v (by simp [edges])
@[simp] theorem x_N0 (n : Nat) (rs : List Rule) : gIx (encN n rs) (.int 0) = some (.int n) := rfl
@[simp] theorem x_N1 (n : Nat) (rs : List Rule) : gIx (encN n rs) (.int 1) = some (.tup (rs.map encR)) := rfl
end Kx
set_option Elab.async false
set_option linter.all false
set_option maxRecDepth 100000
set_option maxHeartbeats 4000000
/-! checks at valid nets -/
namespace Kx
open PySem PySem.Spec PyProof.Rows L2
def numO : D → Option Int
  | .int i => some i
  | _ => none
theorem e_is_between (d : D) (lo hi : Int) (h : noDct d = true) : F_is_between [d, .int lo, .int hi] = some (.bl (match d with | .int v => decide (lo ≤ v) && decide (v ≤ hi) | _ => false)) := by
  unfold F_is_between b_is_between
  cases d with
  | int v => by_cases h1 : lo ≤ v <;> by_cases h2 : v ≤ hi <;> simp [runD, h1, h2]
  | dct kvs => cases h
  | _ => simp [runD]
theorem e_btw (v lo hi : Int) : F_is_between [.int v, .int lo, .int hi] = some (.bl (decide (lo ≤ v) && decide (v ≤ hi))) := e_is_between (.int v) lo hi rfl
theorem btw_t {v lo hi : Int} (h : lo ≤ v ∧ v ≤ hi) : F_is_between [.int v, .int lo, .int hi] = some (.bl true) := by
  rw [e_btw, decide_eq_true h.1, decide_eq_true h.2]
  rfl
theorem e_is_integer (d : D) (h : noDct d = true) : F_is_integer [d] = some (.bl (numO d).isSome) := by
  unfold F_is_integer b_is_integer
  cases d <;> simp [runD, numO] <;> cases h
theorem e_law_is_integer (d : D) (h : noDct d = true) : F_law_is_integer [d] = some (.bl (numO d).isSome) := by
  unfold F_law_is_integer b_law_is_integer
  cases d <;> simp [runD, numO] <;> cases h
theorem e_is_number (d : D) (h : noDct d = true) : F_is_number [d] = some (.bl (numO d).isSome) := by
  unfold F_is_number b_is_number
  cases d <;> simp [runD, numO] <;> cases h
theorem e_is_side {o : Option Int} (h : Wt o) : F_is_side [encO o] = some (.bl true) := by
  unfold F_is_side b_is_side
  cases o with
  | none => simp [runD, encO]
  | some x =>
    have := h x rfl
    have c : F_is_between [.int x, .int (-100), .int 100] = some (.bl true) := btw_t (by omega)
    simp [runD, encO, c]
theorem e_is_rule {n : Nat} {r : Rule} (h : OkR n r) : F_is_rule [encR r, .int n] = some (.bl true) := by
  obtain ⟨s, e, lo, hi⟩ := r
  have h1 := h.s
  have h2 := h.e
  have h3 := h.ne
  have h4 := h.some
  unfold Rg at h1 h2
  unfold F_is_rule b_is_rule
  simp at h1 h2 h3 h4
  have c1 : F_is_between [.int s, .int 0, .int ((n : Int) - 1)] = some (.bl true) := btw_t (by omega)
  have c2 : F_is_between [.int e, .int 0, .int ((n : Int) - 1)] = some (.bl true) := btw_t (by omega)
  have s1 := e_is_side h.lo
  have s2 := e_is_side h.hi
  simp at s1 s2
  refine run_sl _ rfl ?_
  cases lo <;> cases hi <;> simp [encO, Ret] at h4 s1 s2 ⊢ <;> simp [encR, encO, c1, c2, h3, s1, s2]
theorem e_is_net {n : Nat} {rs : List Rule} (h : OkN n rs) : F_is_net [encN n rs] = some (.bl true) := by
  unfold F_is_net b_is_net
  have h1 := h.n1
  have h2 := h.n4
  have h3 := h.len
  have c1 : F_is_between [.int (n : Int), .int 1, .int 6] = some (.bl true) := btw_t (by omega)
  have c2 : decide ((12 : Int) < rs.length) = false := by simp; omega
  refine run_sl _ rfl ?_
  refine Ret.nx (ρ1 := [some (.fz (encN n rs)), none]) (by simp [c1, encN]) (Ret.nx (ρ1 := [some (.fz (encN n rs)), none]) (by simp [c2]) (Ret.rt (Ret.e (eN_v (a1_v (eComp_map rs encR (fun _ => .bl true) _ (by simp) rfl fun r hr => ?_)) (all_true rs)))))
  simp [cstep, e_is_rule (h.rl r hr)]
theorem e_check_net {n : Nat} {rs : List Rule} (h : OkN n rs) : F_check_net [encN n rs] = some .non := by
  unfold F_check_net b_check_net
  simp [runD, e_is_net h]
theorem e_is_event_b {n : Nat} {rs : List Rule} (d : D) (h : noDct d = true) : F_is_event_b [encN n rs, d] = some (.bl (match d with | .int v => decide (0 ≤ v) && decide (v < n) | _ => false)) := by
  unfold F_is_event_b b_is_event_b
  cases d with
  | int v => by_cases h1 : 0 ≤ v <;> by_cases h2 : v < n <;> simp [runD, h1, h2, e_is_integer (.int v) rfl, numO]
  | dct kvs => cases h
  | non => simp [runD, e_is_integer .non rfl, numO]
  | bl b => simp [runD, e_is_integer (.bl b) rfl, numO]
  | str b => simp [runD, e_is_integer (.str b) rfl, numO]
  | tup b => simp [runD, e_is_integer (.tup b) rfl, numO]
  | lst b => simp [runD, e_is_integer (.lst b) rfl, numO]
theorem ev_t {n : Nat} {rs : List Rule} {i : Int} (h : Rg n i) : F_is_event_b [encN n rs, .int i] = some (.bl true) := by
  rw [e_is_event_b (.int i) rfl]
  have h1 := h.1
  have h2 := h.2
  simp [h1, h2]
theorem e_check_two {n : Nat} {rs : List Rule} (h : OkN n rs) {i j : Int} (hi : Rg n i) (hj : Rg n j) : F_check_two [encN n rs, .int i, .int j] = some .non := by
  unfold F_check_two b_check_two
  simp [runD, e_check_net h, ev_t hi, ev_t hj]
theorem e_check_event {n : Nat} {rs : List Rule} {i : Int} (hi : Rg n i) : F_check_event [encN n rs, .int i] = some .non := by
  unfold F_check_event b_check_event
  simp [runD, ev_t hi]
/-- rows -/
def OkW (n : Nat) (row : List (Int × Int)) : Prop := row.length ≤ 3 ∧ ∀ p ∈ row, Rg n p.1 ∧ -20 ≤ p.2 ∧ p.2 ≤ 20
def encP (p : Int × Int) : D := .tup [.int p.1, .int p.2]
def encW (row : List (Int × Int)) : D := .tup (row.map encP)
theorem e_is_event_f {n : Nat} {rs : List Rule} {i : Int} (h : Rg n i) : F_is_event_f [.int i, encN n rs] = some (.bl true) := by
  unfold F_is_event_f b_is_event_f
  have h1 := h.1
  have h2 := h.2
  simp [runD, e_is_number (.int i) rfl, numO, h1, h2]
theorem e_is_news {n : Nat} {rs : List Rule} {p : Int × Int} (h : Rg n p.1) (h2 : -20 ≤ p.2 ∧ p.2 ≤ 20) : F_is_news [encP p, encN n rs] = some (.bl true) := by
  unfold F_is_news b_is_news encP
  have c1 : -p.2 ≤ 500 := by omega
  have c2 : p.2 ≤ 500 := by omega
  by_cases hn : p.2 < 0
  · simp [runD, e_is_event_f h, e_is_number (.int p.2) rfl, numO, hn, c1]
  · simp [runD, e_is_event_f h, e_is_number (.int p.2) rfl, numO, hn, c2]
theorem e_is_row {n : Nat} {rs : List Rule} {row : List (Int × Int)} (h : OkW n row) : F_is_row [encW row, encN n rs] = some (.bl true) := by
  unfold F_is_row b_is_row
  have c : decide ((8 : Int) < row.length) = false := by
    have := h.1
    simp
    omega
  refine run_sl _ rfl ?_
  refine Ret.nx (ρ1 := [some (.fz (encW row)), some (.fz (encN n rs)), none]) (by simp [encW, c]) (Ret.rt (Ret.e (eN_v (a1_v (eComp_map row encP (fun _ => .bl true) _ (by simp [encW]) rfl fun p hp => ?_)) (all_true row))))
  simp [cstep, e_is_news (h.2 p hp).1 (h.2 p hp).2]
theorem e_check_row {n : Nat} {rs : List Rule} {row : List (Int × Int)} (h : OkW n row) : F_check_row [encN n rs, encW row] = some .non := by
  unfold F_check_row b_check_row
  simp [runD, e_is_row h]
end Kx
set_option Elab.async false
set_option linter.all false
set_option maxRecDepth 100000
set_option maxHeartbeats 4000000
/-! the program's shortest walks: evaluation -/
namespace Kx
open PySem PySem.Spec PyProof.Rows L2
abbrev WDict := List ((Int × Int) × List Ed)
def ent (w : List Ed) : D := .tup [.int (tot w), .tup (w.map encK)]
def encD (kvs : WDict) : D := .dct (nMap ent kvs)
def up (p : Int × Int) (w : List Ed) (f : WDict) (e : Ed) : WDict :=
  if e.a = p.2 then match nLook f (p.1, e.b) with
    | none => nPut f (p.1, e.b) (w ++ [e])
    | some v => if tot w + e.w < tot v then nPut f (p.1, e.b) (w ++ [e]) else f
  else f
def longer (es : List Ed) (kvs : WDict) : WDict := kvs.foldl (fun f kv => es.foldl (up kv.1 kv.2) f) []
structure Fine {α : Type} (n : Nat) (f : List ((Int × Int) × α)) : Prop where
  nd : (nKeys f).Nodup
  rg : ∀ p ∈ nKeys f, Rg n p.1 ∧ Rg n p.2
theorem Fine.len {α : Type} {n : Nat} {f : List ((Int × Int) × α)} (h : Fine n f) : f.length ≤ n * n := by
  have := nodup_rg2 h.nd h.rg
  unfold nKeys at this
  rwa [List.length_map] at this
theorem Fine.len16 {α : Type} {n : Nat} {f : List ((Int × Int) × α)} (h : Fine n f) (hn : n ≤ 4) : f.length ≤ 16 :=
  Nat.le_trans h.len (Nat.mul_le_mul hn hn)
theorem Fine.put {α : Type} {n : Nat} {f : List ((Int × Int) × α)} (h : Fine n f) {p : Int × Int} (hp : Rg n p.1 ∧ Rg n p.2) (d : α) : Fine n (nPut f p d) :=
  ⟨nPut_nodup h.nd, fun q hq => by
    rw [nKeys_put] at hq
    split at hq
    · exact h.rg q hq
    · rcases List.mem_append.mp hq with h1 | h1
      · exact h.rg q h1
      · rw [List.mem_singleton.mp h1]
        exact hp⟩
theorem Fine.nil {α : Type} {n : Nat} : Fine n ([] : List ((Int × Int) × α)) := ⟨List.nodup_nil, fun p h => by simp [nKeys] at h⟩
theorem Fine.up {n : Nat} {f : WDict} (h : Fine n f) {p : Int × Int} {w : List Ed} {e : Ed} (hp : Rg n p.1) (he : Rg n e.b) : Fine n (up p w f e) := by
  unfold Kx.up
  split
  · split
    · exact h.put (p := (p.1, e.b)) ⟨hp, he⟩ _
    · split
      · exact h.put (p := (p.1, e.b)) ⟨hp, he⟩ _
      · exact h
  · exact h
@[simp] theorem nLook_ent (kvs : WDict) (p : Int × Int) : nLook (nMap ent kvs) p = (nLook kvs p).map ent := nLook_map ent p kvs
theorem nMap_length {α β : Type} (f : α → β) (kvs : List ((Int × Int) × α)) : (nMap f kvs).length = kvs.length := by
  unfold nMap
  exact List.length_map _
theorem tot_snoc (w : List Ed) (e : Ed) : tot (w ++ [e]) = tot w + e.w := by
  rw [tot_append]
  simp [tot]
theorem edges_rg {n : Nat} {rs : List Rule} (h : OkN n rs) : ERg n (edges rs) := by
  intro e he
  unfold edges at he
  rw [List.mem_flatMap] at he
  obtain ⟨⟨r, i⟩, hr, he⟩ := he
  have hm : r ∈ rs := by
    have := List.mem_zipIdx hr
    have h2 := this.2.2
    rw [h2]
    exact List.getElem_mem _
  have ok := h.rl r hm
  unfold edR edHi edLo at he
  cases h1 : r.hi <;> cases h2 : r.lo <;> simp [h1, h2] at he
  · rw [he]; exact ⟨ok.e, ok.s⟩
  · rw [he]; exact ⟨ok.s, ok.e⟩
  · rcases he with he | he <;> rw [he]
    · exact ⟨ok.s, ok.e⟩
    · exact ⟨ok.e, ok.s⟩
theorem foldUp_fine {n : Nat} {es : List Ed} (r : ERg n es) {p : Int × Int} {w : List Ed} (hp : Rg n p.1) {f : WDict} (h : Fine n f) : Fine n (es.foldl (up p w) f) :=
  foldl_inv (up p w) (Fine n) es f h fun s a ha hs => hs.up hp (r a ha).2
theorem longer_fine {n : Nat} {es : List Ed} (r : ERg n es) {kvs : WDict} (h : Fine n kvs) : Fine n (longer es kvs) :=
  foldl_inv _ (Fine n) kvs [] Fine.nil fun s a ha hs => foldUp_fine r (h.rg a.1 (List.mem_map.mpr ⟨a, ha, rfl⟩)).1 hs
theorem e_longer {n : Nat} {rs : List Rule} (h : OkN n rs) {kvs : WDict} (hk : Fine n kvs) (hw : ∀ p w, nLook kvs p = some w → w.length ≤ 10) : F_longer_walks [encN n rs, encD kvs] = some (encD (longer (edges rs) kvs)) := by
  unfold F_longer_walks b_longer_walks
  have rl := h.len
  refine run_sl _ rfl (Ret.nx (ρ1 := [some (.fz (encN n rs)), some (.fz (encD kvs)), some (.od []), none, none, none, none, none, none, none, none]) (by simp)
    (Ret.nx (forK_fold kvs (fun kv => keyD kv.1) (fun f : WDict => [some (.fz (encN n rs)), some (.fz (encD kvs)), some (.od (nMap ent f)), none, none, none, none, none, none, none, none]) (fun f kv => (edges rs).foldl (up kv.1 kv.2) f) (Fine n) [] (kvs := nMap ent kvs) (by simp [encD]) (by simp [nMap]) (by simp [nMap]) Fine.nil ?_ ?_) (Ret.rt (Ret.v ?_))))
  · intro f kv hkv hf
    obtain ⟨⟨i, j⟩, w⟩ := kv
    have hl : nLook kvs (i, j) = some w := nLook_of_mem hk.nd hkv
    have hi := (hk.rg (i, j) (List.mem_map.mpr ⟨_, hkv, rfl⟩)).1
    have hw10 := hw _ _ hl
    have lp := for_fold (kill := [7, 8, 9, 10]) (g := gTupT 4 (gsCons (gSet 7) (gsCons (gSet 8) (gsCons (gSet 9) (gsCons (gSet 10) (gsNil))))))
      (f := (sCons (sIf (tAnd' (tBl (e2 (gEqv false) (eName 8) (eName 4))) (tOr' (tBl (eDinO true 2 (eN gTup (aCons (eName 3) (aCons (eName 9) (aNil)))))) (tBl (e2 (gB fun i j => decide (i < j)) (e2 gAdd (eName 5) (eName 10)) (e2 gIx (eDgetO 2 (eN gTup (aCons (eName 3) (aCons (eName 9) (aNil))))) (eC (.int 0))))))) (sCons (sPut 2 (eN gTup (aCons (eName 3) (aCons (eName 9) (aNil)))) (eN gTup (aCons (e2 gAdd (eName 5) (eName 10)) (aCons (e2 gAdd (eName 6) (eN gTup (aCons (eName 7) (aNil)))) (aNil))))) (sNil)) (sNil)) (sNil)))
      (fi := iSeq (eCall 1 F_edges_of (aCons (eName 0) (aNil))))
      (ρ := [some (.fz (encN n rs)), some (.fz (encD kvs)), some (.od (nMap ent f)), some (.fz (.int i)), some (.fz (.int j)), some (.fz (.int (tot w))), some (.fz (.tup (w.map encK))), none, none, none, none])
      (edges rs) encE (fun f : WDict => [some (.fz (encN n rs)), some (.fz (encD kvs)), some (.od (nMap ent f)), some (.fz (.int i)), some (.fz (.int j)), some (.fz (.int (tot w))), some (.fz (.tup (w.map encK))), none, none, none, none]) (up (i, j) w) (Fine n) f
      (by simp [e_edges_of (show rs.length ≤ 12 by omega)]) (by simp) hf ?_ fun s a ha hs => hs.up hi (edges_rg h a ha).2
    · simp [keyD, encD, hl, ent] at lp ⊢
      rw [lp]
      simp
    · intro f e he hf
      have lf : (nMap ent f).length < 1000 := by
        have := hf.len16 h.n4
        rw [nMap_length]
        omega
      have l2 : w.length + 1 ≤ 1000 := by omega
      unfold up
      by_cases h1 : e.a = j
      · have pe := nPut_map ent (i, e.b) (w ++ [e]) f
        have pe2 : ent (w ++ [e]) = .tup [.int (tot w + e.w), .tup (w.map encK ++ [encK e])] := by
          simp [ent, tot_snoc]
        rw [pe2] at pe
        cases h2 : nLook f (i, e.b) with
        | none => simp [encE, h1, h2, lf, l2, pe]
        | some v =>
          by_cases h3 : tot w + e.w < tot v
          · simp [encE, h1, h2, lf, l2, pe, ent, h3]
          · simp [encE, h1, h2, lf, l2, pe, ent, h3]
      · simp [encE, h1]
  · intro f kv hkv hf
    exact foldUp_fine (edges_rg h) (hk.rg kv.1 (List.mem_map.mpr ⟨kv, hkv, rfl⟩)).1 hf
  · simp [encD, longer]
end Kx
set_option Elab.async false
set_option linter.all false
set_option maxRecDepth 100000
set_option maxHeartbeats 4000000
/-! the program's shortest walks: what they are -/
namespace Kx
open PySem PySem.Spec PyProof.Rows L2
theorem foldl_ach {α S : Type} {step : S → α → S} {Q : S → Prop} (mono : ∀ s b, Q s → Q (step s b)) {a : α} (ach : ∀ s, Q (step s a)) : ∀ {l : List α} {s : S}, a ∈ l → Q (l.foldl step s)
  | b :: l, s, h => by
    rcases List.mem_cons.mp h with e | e
    · subst e
      exact foldl_inv step Q l _ (ach s) fun s b _ hs => mono s b hs
    · show Q (l.foldl step (step s b))
      exact foldl_ach mono ach e
def Cov (f : WDict) (q : Int × Int) (t : Int) : Prop := ∃ v, nLook f q = some v ∧ tot v ≤ t
theorem cov_put {f : WDict} {q p : Int × Int} {t : Int} {w : List Ed} (h : Cov f q t) (hb : ∀ v, nLook f p = some v → tot w ≤ tot v) : Cov (nPut f p w) q t := by
  obtain ⟨v, h1, h2⟩ := h
  unfold Cov
  rw [nLook_put]
  by_cases e : p = q
  · rw [if_pos e]
    exact ⟨w, rfl, Int.le_trans (hb v (e ▸ h1)) h2⟩
  · rw [if_neg e]
    exact ⟨v, h1, h2⟩
theorem cov_new (f : WDict) (p : Int × Int) (w : List Ed) : Cov (nPut f p w) p (tot w) := ⟨w, by rw [nLook_put, if_pos rfl], Int.le_refl _⟩
theorem up_mono {p : Int × Int} {w : List Ed} {e : Ed} {f : WDict} {q : Int × Int} {t : Int} (h : Cov f q t) : Cov (up p w f e) q t := by
  unfold up
  split
  · split
    · rename_i h1
      exact cov_put h fun v hv => by rw [h1] at hv; cases hv
    · rename_i v h1
      split
      · rename_i h2
        refine cov_put h fun v' hv => ?_
        rw [h1] at hv
        cases hv
        rw [tot_snoc]
        omega
      · exact h
  · exact h
theorem up_cov {p : Int × Int} {w : List Ed} {e : Ed} (he : e.a = p.2) (f : WDict) : Cov (up p w f e) (p.1, e.b) (tot w + e.w) := by
  unfold up
  rw [if_pos he, ← tot_snoc]
  split
  · exact cov_new _ _ _
  · rename_i v h1
    split
    · exact cov_new _ _ _
    · rename_i h2
      exact ⟨v, h1, by omega⟩
structure WSpec (E : List Ed) (n : Nat) (L : Nat → Prop) (f : WDict) : Prop where
  fine : Fine n f
  real : ∀ p w, nLook f p = some w → IsW E p.1 w p.2 ∧ L w.length
  cp : ∀ i j w, Rg n i → IsW E i w j → L w.length → Cov f (i, j) (tot w)
theorem put_real {E : List Ed} {L : Nat → Prop} {f : WDict} (h : ∀ p w, nLook f p = some w → IsW E p.1 w p.2 ∧ L w.length) {q : Int × Int} {v : List Ed} (hv : IsW E q.1 v q.2 ∧ L v.length) : ∀ p w, nLook (nPut f q v) p = some w → IsW E p.1 w p.2 ∧ L w.length := by
  intro p w hp
  rw [nLook_put] at hp
  by_cases e : q = p
  · rw [if_pos e] at hp
    cases hp
    rw [← e]
    exact hv
  · rw [if_neg e] at hp
    exact h p w hp
theorem up_real {E : List Ed} {L : Nat → Prop} {f : WDict} (h : ∀ p w, nLook f p = some w → IsW E p.1 w p.2 ∧ L w.length) {q : Int × Int} {v : List Ed} (hv : IsW E q.1 v q.2) (hl : L (v.length + 1)) {e : Ed} (he : e ∈ E) : ∀ p w, nLook (up q v f e) p = some w → IsW E p.1 w p.2 ∧ L w.length := by
  unfold up
  by_cases ha : e.a = q.2
  · rw [if_pos ha]
    have hn : IsW E (q.1, e.b).1 (v ++ [e]) (q.1, e.b).2 ∧ L (v ++ [e]).length := ⟨isW_snoc (ha ▸ hv) he rfl, by simp; exact hl⟩
    split
    · exact put_real h hn
    · split
      · exact put_real h hn
      · exact h
  · rw [if_neg ha]
    exact h
theorem longer_spec {E : List Ed} {n k : Nat} (r : ERg n E) {f : WDict} (h : WSpec E n (fun l => l = k) f) : WSpec E n (fun l => l = k + 1) (longer E f) := by
  refine ⟨longer_fine r h.fine, ?_, ?_⟩
  · refine foldl_inv (fun (g : WDict) (kv : (Int × Int) × List Ed) => E.foldl (up kv.1 kv.2) g) (fun g => ∀ p w, nLook g p = some w → IsW E p.1 w p.2 ∧ w.length = k + 1) f [] (fun p w hp => by simp [nLook] at hp) fun g kv hkv hg => ?_
    have hl := nLook_of_mem (p := kv.1) (d := kv.2) h.fine.nd hkv
    have hr := h.real _ _ hl
    exact foldl_inv (up kv.1 kv.2) (fun g => ∀ p w, nLook g p = some w → IsW E p.1 w p.2 ∧ w.length = k + 1) E g hg fun g e he hg => up_real (L := fun l => l = k + 1) hg hr.1 (by rw [hr.2]) he
  · intro i j w hi hw hk
    have hne : w ≠ [] := fun z => by rw [z] at hk; simp at hk
    obtain ⟨u, e, rfl⟩ : ∃ u e, w = u ++ [e] := ⟨w.dropLast, w.getLast hne, (List.dropLast_concat_getLast hne).symm⟩
    obtain ⟨m, h1, h2, h3, h4⟩ := isW_split hw
    subst h3
    cases h4
    obtain ⟨v, hv, ht⟩ := h.cp i e.a u hi h1 (by simp at hk; exact hk)
    have hm := nLook_mem hv
    rw [tot_snoc]
    have hc : Cov (longer E f) (i, e.b) (tot v + e.w) := by
      refine foldl_ach (a := ((i, e.a), v)) (step := fun (g : WDict) (kv : (Int × Int) × List Ed) => E.foldl (up kv.1 kv.2) g) (Q := fun g => Cov g (i, e.b) (tot v + e.w)) (fun g kv hg => foldl_inv (up kv.1 kv.2) (fun g => Cov g (i, e.b) (tot v + e.w)) E g hg fun g e' _ hg => up_mono hg) (fun g => ?_) hm
      exact foldl_ach (a := e) (step := up (i, e.a) v) (Q := fun g => Cov g (i, e.b) (tot v + e.w)) (fun g e' hg => up_mono hg) (fun g => up_cov rfl g) h2
    obtain ⟨z, hz, hz2⟩ := hc
    exact ⟨z, hz, by omega⟩
/-! ### the start -/
def baseW (n : Nat) : WDict := (ev n).foldl (fun f i => nPut f (i, i) []) []
theorem base_spec {E : List Ed} {n : Nat} : WSpec E n (fun l => l = 0) (baseW n) := by
  refine ⟨foldl_inv (fun f i => nPut f (i, i) []) (Fine n) (ev n) [] Fine.nil fun f i hi hf => hf.put ⟨mem_ev.mp hi, mem_ev.mp hi⟩ _, ?_, ?_⟩
  · exact foldl_inv (fun (f : WDict) i => nPut f (i, i) []) (fun g => ∀ p w, nLook g p = some w → IsW E p.1 w p.2 ∧ w.length = 0) (ev n) [] (fun p w hp => by simp [nLook] at hp) fun g i _ hg => put_real (L := fun l => l = 0) hg ⟨rfl, rfl⟩
  · intro i j w hi hw hl
    have : w = [] := List.length_eq_zero_iff.mp hl
    subst this
    cases hw
    have hc := foldl_ach (a := i) (step := fun (f : WDict) i => nPut f (i, i) []) (Q := fun g => nLook g (i, i) = some []) (fun g b hg => by
      rw [nLook_put]
      split
      · rfl
      · exact hg) (fun g => by rw [nLook_put, if_pos rfl]) (s := []) (mem_ev.mpr hi)
    exact ⟨[], hc, Int.le_refl _⟩
theorem WSpec.weaken {E : List Ed} {n : Nat} {L L' : Nat → Prop} {f : WDict} (h : WSpec E n L f) (e : ∀ l, L l ↔ L' l) : WSpec E n L' f :=
  ⟨h.fine, fun p w hp => ⟨(h.real p w hp).1, (e _).mp (h.real p w hp).2⟩, fun i j w hi hw hl => h.cp i j w hi hw ((e _).mpr hl)⟩
/-! ### the best of them -/
def bet (f : WDict) (kv : (Int × Int) × List Ed) : WDict := match nLook f kv.1 with
  | none => nPut f kv.1 kv.2
  | some v => if tot kv.2 < tot v then nPut f kv.1 kv.2 else f
theorem bet_mono {kv : (Int × Int) × List Ed} {f : WDict} {q : Int × Int} {t : Int} (h : Cov f q t) : Cov (bet f kv) q t := by
  unfold bet
  split
  · rename_i h1
    exact cov_put h fun v hv => by rw [h1] at hv; cases hv
  · rename_i v h1
    split
    · rename_i h2
      refine cov_put h fun v' hv => ?_
      rw [h1] at hv
      cases hv
      omega
    · exact h
theorem bet_cov (kv : (Int × Int) × List Ed) (f : WDict) : Cov (bet f kv) kv.1 (tot kv.2) := by
  unfold bet
  split
  · exact cov_new _ _ _
  · rename_i v h1
    split
    · exact cov_new _ _ _
    · exact ⟨v, h1, by omega⟩
theorem bet_spec {E : List Ed} {n k : Nat} {b w : WDict} (hb : WSpec E n (fun l => l ≤ k) b) (hw : WSpec E n (fun l => l = k + 1) w) : WSpec E n (fun l => l ≤ k + 1) (w.foldl bet b) := by
  refine ⟨?_, ?_, ?_⟩
  · refine foldl_inv bet (Fine n) w b hb.fine fun f kv hkv hf => ?_
    have hr := hw.fine.rg kv.1 (List.mem_map.mpr ⟨kv, hkv, rfl⟩)
    unfold bet
    split
    · exact hf.put hr _
    · split
      · exact hf.put hr _
      · exact hf
  · refine foldl_inv bet (fun g => ∀ p w, nLook g p = some w → IsW E p.1 w p.2 ∧ w.length ≤ k + 1) w b (fun p w hp => ⟨(hb.real p w hp).1, by have := (hb.real p w hp).2; omega⟩) fun g kv hkv hg => ?_
    have hl := nLook_of_mem (p := kv.1) (d := kv.2) hw.fine.nd hkv
    have hr := hw.real _ _ hl
    have hn : IsW E kv.1.1 kv.2 kv.1.2 ∧ kv.2.length ≤ k + 1 := ⟨hr.1, by rw [hr.2]; omega⟩
    unfold bet
    split
    · exact put_real (L := fun l => l ≤ k + 1) hg hn
    · split
      · exact put_real (L := fun l => l ≤ k + 1) hg hn
      · exact hg
  · intro i j u hi hu hl
    by_cases hk : u.length ≤ k
    · exact foldl_inv bet (fun g => Cov g (i, j) (tot u)) w b (hb.cp i j u hi hu hk) fun g kv _ hg => bet_mono hg
    · obtain ⟨v, hv, ht⟩ := hw.cp i j u hi hu (by omega)
      obtain ⟨z, h1, h2⟩ := foldl_ach (a := ((i, j), v)) (step := bet) (Q := fun g => Cov g (i, j) (tot v)) (fun g kv hg => bet_mono hg) (fun g => bet_cov ((i, j), v) g) (s := b) (nLook_mem hv)
      exact ⟨z, h1, by omega⟩
theorem best_dist {E : List Ed} {n : Nat} (n1 : 1 ≤ n) {h : Int → Int} (p : Pot E h) (r : ERg n E) {b : WDict} (hb : WSpec E n (fun l => l ≤ n - 1) b) {i : Int} (hi : Rg n i) (j : Int) : Dist E i j ((nLook b (i, j)).map tot) := by
  cases hl : nLook b (i, j) with
  | none =>
    intro w hw
    obtain ⟨v, h1, h2, _⟩ := short_walk p r w.length (Nat.le_refl _) hw hi
    obtain ⟨z, hz, _⟩ := hb.cp i j v hi h1 (by omega)
    rw [hl] at hz
    cases hz
  | some v =>
    refine ⟨⟨v, (hb.real _ _ hl).1, rfl⟩, fun w hw => ?_⟩
    obtain ⟨u, h1, h2, h3⟩ := short_walk p r w.length (Nat.le_refl _) hw hi
    obtain ⟨z, hz, hz2⟩ := hb.cp i j u hi h1 (by omega)
    rw [hl] at hz
    cases hz
    omega
def shN (E : List Ed) : Nat → WDict × WDict → WDict × WDict
  | 0, s => s
  | m + 1, s => shN E m ((longer E s.2).foldl bet s.1, longer E s.2)
theorem shN_spec {E : List Ed} {n : Nat} (r : ERg n E) : ∀ (m k : Nat) (s : WDict × WDict), WSpec E n (fun l => l ≤ k) s.1 → WSpec E n (fun l => l = k) s.2 → WSpec E n (fun l => l ≤ k + m) (shN E m s).1
  | 0, k, s, h, _ => h
  | m + 1, k, s, h1, h2 => by
    have hw := longer_spec r h2
    have := shN_spec r m (k + 1) ((longer E s.2).foldl bet s.1, longer E s.2) (bet_spec h1 hw) hw
    rw [show k + 1 + m = k + (m + 1) by omega] at this
    exact this
def best (n : Nat) (E : List Ed) : WDict := (shN E (n - 1) (baseW n, baseW n)).1
theorem best_spec {E : List Ed} {n : Nat} (r : ERg n E) : WSpec E n (fun l => l ≤ n - 1) (best n E) := by
  have := shN_spec (E := E) r (n - 1) 0 (baseW n, baseW n) (base_spec.weaken fun l => by omega) base_spec
  rw [Nat.zero_add] at this
  exact this
end Kx
set_option Elab.async false
set_option linter.all false
set_option maxRecDepth 100000
set_option maxHeartbeats 4000000
/-! first_round, shortest_walks, bounds_of: evaluation -/
namespace Kx
open PySem PySem.Spec PyProof.Rows L2
def dstep (vs : List Nat) (g : Fg) (fk fv : Fe) (d : D) (ρ : Rho) : Option ((Int × Int) × D × Rho) := match g d ρ with
  | some ρ1 => match fk ρ1 with
    | some (y, ρ2) => match dKey y with
      | some k => match fv ρ2 with
        | some (z, ρ3) => some (k, z, wipeR ρ3 vs)
        | none => none
      | none => none
    | none => none
  | none => none
theorem dstep_inv {vs : List Nat} {g : Fg} {fk fv : Fe} {d z : D} {ρ R : Rho} {k : Int × Int} (h : dstep vs g fk fv d ρ = some (k, z, R)) :
    ∃ ρ1 y ρ2 ρ3, g d ρ = some ρ1 ∧ fk ρ1 = some (y, ρ2) ∧ dKey y = some k ∧ fv ρ2 = some (z, ρ3) ∧ wipeR ρ3 vs = R := by
  unfold dstep at h
  cases e1 : g d ρ with
  | none =>
    rw [e1] at h
    cases h
  | some ρ1 =>
    rw [e1] at h
    simp only at h
    cases e2 : fk ρ1 with
    | none =>
      rw [e2] at h
      cases h
    | some p =>
      obtain ⟨y, ρ2⟩ := p
      rw [e2] at h
      simp only at h
      cases e3 : dKey y with
      | none =>
        rw [e3] at h
        cases h
      | some k' =>
        rw [e3] at h
        simp only at h
        cases e4 : fv ρ2 with
        | none =>
          rw [e4] at h
          cases h
        | some q =>
          obtain ⟨z', ρ3⟩ := q
          rw [e4] at h
          simp only [Option.some.injEq, Prod.mk.injEq] at h
          obtain ⟨h1, h2, h3⟩ := h
          exact ⟨ρ1, y, ρ2, ρ3, rfl, e2, by rw [e3, h1], by rw [e4, h2], h3⟩
theorem dcomp_fold {α : Type} {vs : List Nat} {g : Fg} {fk fv : Fe} (enc : α → D) (key : α → Int × Int) (val : α → D) (R : Rho) : ∀ (l : List α) (acc : List ((Int × Int) × D)), (∀ a ∈ l, dstep vs g fk fv (enc a) R = some (key a, val a, R)) →
    dcompR vs g fk fv (l.map enc) acc R = some (l.foldl (fun f a => nPut f (key a) (val a)) acc, R)
  | [], acc, _ => rfl
  | a :: l, acc, h => by
    have ih := fun acc => dcomp_fold (vs := vs) (g := g) (fk := fk) (fv := fv) enc key val R l acc fun b hb => h b (List.mem_cons_of_mem _ hb)
    rw [List.map_cons]
    unfold dcompR
    obtain ⟨ρ1, y, ρ2, ρ3, e1, e2, e3, e4, e5⟩ := dstep_inv (h a (List.mem_cons_self ..))
    simp only [e1, e2, e3, e4, e5, ih]
    rfl
theorem setDc_fold {α : Type} {i : Nat} {vs : List Nat} {fi : Fi} {g : Fg} {fk fv : Fe} {ρ : Rho} (l : List α) (enc : α → D) (key : α → Int × Int) (val : α → D) (R : Rho) (hi : fi ρ = some (l.map enc, ρ)) (h0 : wipeR ρ vs = R) (h : ∀ a ∈ l, dstep vs g fk fv (enc a) R = some (key a, val a, R)) :
    sSetDc i vs fi g fk fv ρ = some (.nx (R.set i (some (.od (l.foldl (fun f a => nPut f (key a) (val a)) []))))) := by
  rw [x_sSetDc, hi]
  show (match dcompR vs g fk fv (l.map enc) [] (wipeR ρ vs) with | some (kvs, ρ2) => _ | none => none) = _
  rw [h0, dcomp_fold enc key val R l [] h]
theorem setDcK_fold {α : Type} {i j : Nat} {vs : List Nat} {g : Fg} {fk fv : Fe} {ρ : Rho} {kvs : List ((Int × Int) × D)} (l : List α) (enc : α → D) (key : α → Int × Int) (val : α → D) (R : Rho) (hi : freeze j ρ = some (.dct kvs, ρ)) (hl : (kvs.map fun kv => keyD kv.1) = l.map enc) (h0 : wipeR ρ vs = R) (h : ∀ a ∈ l, dstep vs g fk fv (enc a) R = some (key a, val a, R)) :
    sSetDcK i j vs g fk fv ρ = some (.nx (R.set i (some (.od (l.foldl (fun f a => nPut f (key a) (val a)) []))))) := by
  rw [x_sSetDcK, hi]
  show (match dcompR vs g fk fv (kvs.map fun kv => keyD kv.1) [] (wipeR ρ vs) with | some (kvs, ρ2) => _ | none => none) = _
  rw [h0, hl, dcomp_fold enc key val R l [] h]
theorem nMap_foldl {α β γ : Type} (f : α → β) (key : γ → Int × Int) (v : γ → α) : ∀ (l : List γ) (s : List ((Int × Int) × α)), l.foldl (fun g a => nPut g (key a) (f (v a))) (nMap f s) = nMap f (l.foldl (fun g a => nPut g (key a) (v a)) s)
  | [], s => rfl
  | a :: l, s => by
    rw [List.foldl_cons, List.foldl_cons, nPut_map, nMap_foldl f key v l]
theorem copy_fold {α : Type} : ∀ (l acc : List ((Int × Int) × α)), (nKeys (acc ++ l)).Nodup → l.foldl (fun g kv => nPut g kv.1 kv.2) acc = acc ++ l
  | [], acc, _ => by simp
  | kv :: l, acc, h => by
    have hn : kv.1 ∉ nKeys acc := fun z => by
      unfold nKeys at h z
      rw [List.map_append, List.nodup_append] at h
      exact h.2.2 _ z _ (by simp) rfl
    have hp : nPut acc kv.1 kv.2 = acc ++ [kv] := by
      unfold nPut
      rw [if_neg fun z => hn ((any_key acc kv.1).mp z)]
    rw [List.foldl_cons, hp, copy_fold l (acc ++ [kv]) (by rw [List.append_assoc]; exact h), List.append_assoc]
    rfl
/-! ### with_walk -/
theorem e_with_walk {n : Nat} (hn : n ≤ 4) {b : WDict} (hb : Fine n b) (p : Int × Int) (w : List Ed) : F_with_walk [encD b, keyD p, ent w] = some (encD (nPut b p w)) := by
  unfold F_with_walk b_with_walk
  have hl : (nMap ent b).length < 1000 := by
    have := hb.len16 hn
    rw [nMap_length]
    omega
  refine run_sl _ rfl (Ret.nx (setDcK_fold (kvs := nMap ent b) (nMap ent b) (fun kv => keyD kv.1) (fun kv => kv.1) (fun kv => kv.2) _ (by simp [encD]) rfl rfl fun kv hkv => ?_) ?_)
  · have := nLook_of_mem (p := kv.1) (d := kv.2) (by rw [nKeys_map]; exact hb.nd) hkv
    rw [nLook_ent] at this
    obtain ⟨⟨i, j⟩, d⟩ := kv
    simp only at this
    simp [dstep, keyD, encD, this]
  · rw [copy_fold (nMap ent b) [] (by rw [List.nil_append, nKeys_map]; exact hb.nd)]
    obtain ⟨i, j⟩ := p
    refine Ret.nx (ρ1 := [some (.fz (encD b)), some (.fz (keyD (i, j))), some (.fz (ent w)), some (.od (nMap ent (nPut b (i, j) w))), none]) ?_ (Ret.rt (Ret.v (by simp [encD])))
    simp [keyD, hl, nPut_map]
/-! ### first_round -/
theorem e_base {n : Nat} : (ev n).foldl (fun f i => nPut f (i, i) (ent [])) [] = nMap ent (baseW n) := nMap_foldl ent (fun i => (i, i)) (fun _ => []) (ev n) []
theorem iRange_v {fa : Fe} {ρ : Rho} {n : Nat} (h : fa ρ = some (.int n, ρ)) (hn : n ≤ 1000) : iRange fa ρ = some ((ev n).map D.int, ρ) := by
  rw [x_iRange, h]
  show (if (n : Int) ≤ 1000 ∧ -1000 ≤ (n : Int) then some (rangeD 0 (n : Int).toNat, ρ) else none) = _
  rw [if_pos (by omega), Int.toNat_natCast, rangeD_ev]
theorem frz_v {i : Nat} {f : Fs} {ρ ρ1 : Rho} {kvs : List ((Int × Int) × D)} (h : f ρ = some (.nx ρ1)) (h1 : ρ1[i]? = some (some (.od kvs))) : sFrz i f ρ = some (.nx (ρ1.set i (some (.fz (.dct kvs))))) := by
  rw [x_sFrz, h]
  simp only [freeze_od h1]
theorem e_first_round {n : Nat} {rs : List Rule} (h : OkN n rs) {hh : Int → Int} (p : Pot (edges rs) hh) : F_first_round [encN n rs] = some .non := by
  unfold F_first_round b_first_round
  have n4 := h.n4
  refine run_sl _ rfl (Ret.nx (ρ1 := [some (.fz (encN n rs)), some (.fz (encD (baseW n))), none, none]) ?_
    (Ret.nx (for_cnt (ev n) D.int (fun f : WDict => [some (.fz (encN n rs)), some (.fz (encD f)), none, none]) (fun f _ => longer (edges rs) f) (fun k f => WSpec (edges rs) n (fun l => l = k) f) (baseW n) (iRange_v (by simp) (by omega)) (by simp) base_spec ?_ ?_) (Ret.rt (Ret.v (by simp)))))
  · have := frz_v (i := 1) (setDc_fold (i := 1) (vs := [2]) (g := gSet 2) (fk := eN gTup (aCons (eName 2) (aCons (eName 2) (aNil)))) (fv := eN gTup (aCons (eC (.int 0)) (aCons (eN gTup (aNil)) (aNil)))) (fi := iRange (e2 gIx (eName 0) (eC (.int 0)))) (ρ := [some (.fz (encN n rs)), none, none, none]) (ev n) D.int (fun i => (i, i)) (fun _ => ent []) _ (iRange_v (by simp) (by omega)) rfl (fun i hi => by simp [dstep, ent, tot])) rfl
    rw [e_base] at this
    exact this
  · intro k f t ht hk hf
    have hk4 : k < 4 := by
      rw [ev_length] at hk
      omega
    have e1 := e_longer h hf.fine (fun p w hp => by have := (hf.real p w hp).2; omega)
    have hs := longer_spec (edges_rg h) hf
    have lp := for_fold (S := Unit) (kill := [2]) (g := gSet 2) (fi := iRange (e2 gIx (eName 0) (eC (.int 0))))
      (f := (sCons (sIf (tAnd' (tBl (e2 (gDin false) (eN gTup (aCons (eName 2) (aCons (eName 2) (aNil)))) (eName 1))) (tBl (e2 (gB fun i j => decide (i < j)) (e2 gIx (e2 gDget (eName 1) (eN gTup (aCons (eName 2) (aCons (eName 2) (aNil))))) (eC (.int 0))) (eC (.int 0))))) (sCons (sRet (e2 gIx (e2 gDget (eName 1) (eN gTup (aCons (eName 2) (aCons (eName 2) (aNil))))) (eC (.int 1)))) (sNil)) (sNil)) (sNil)))
      (ρ := [some (.fz (encN n rs)), some (.fz (encD (longer (edges rs) f))), none, some (.fz (.int t))]) (ev n) D.int
      (fun _ => [some (.fz (encN n rs)), some (.fz (encD (longer (edges rs) f))), none, some (.fz (.int t))]) (fun _ _ => ()) (fun _ => True) () (iRange_v (by simp) (by omega)) (by simp) trivial ?_ fun _ _ _ _ => trivial
    · simp [e1] at lp ⊢
      rw [lp]
      simp
    · intro _ e he _
      cases hl : nLook (longer (edges rs) f) (e, e) with
      | none => simp [encD, hl]
      | some w =>
        have hw := pot_walk p (hs.real _ _ hl).1
        have : ¬ tot w < 0 := by
          simp at hw
          omega
        simp [encD, hl, ent, this]
  · intro k f t ht hk hf
    exact longer_spec (edges_rg h) hf
/-! ### shortest_walks -/
theorem foldl_shN (E : List Ed) : ∀ (l : List Int) (s : WDict × WDict), l.foldl (fun s _ => ((longer E s.2).foldl bet s.1, longer E s.2)) s = shN E l.length s
  | [], s => rfl
  | a :: l, s => by
    rw [List.foldl_cons, foldl_shN E l]
    rfl
theorem e_shortest {n : Nat} {rs : List Rule} (h : OkN n rs) : F_shortest_walks [encN n rs] = some (encD (best n (edges rs))) := by
  unfold F_shortest_walks b_shortest_walks
  have n4 := h.n4
  have n1 := h.n1
  have rg := edges_rg h
  refine run_sl _ rfl (Ret.nx (ρ1 := [some (.fz (encN n rs)), some (.fz (encD (baseW n))), none, none, none, none]) ?_ (Ret.nx (ρ1 := [some (.fz (encN n rs)), some (.fz (encD (baseW n))), none, some (.fz (encD (baseW n))), none, none]) (by simp)
    (Ret.nx (for_cnt (ev (n - 1)) D.int (fun s : WDict × WDict => [some (.fz (encN n rs)), some (.fz (encD s.1)), none, some (.fz (encD s.2)), none, none]) (fun s _ => ((longer (edges rs) s.2).foldl bet s.1, longer (edges rs) s.2))
      (fun k s => WSpec (edges rs) n (fun l => l ≤ k) s.1 ∧ WSpec (edges rs) n (fun l => l = k) s.2) (baseW n, baseW n) (iRange_v (by simp; omega) (by omega)) (by simp) ⟨base_spec.weaken fun l => by omega, base_spec⟩ ?_ ?_) (Ret.rt (Ret.v ?_)))))
  · have := frz_v (i := 1) (setDc_fold (i := 1) (vs := [2]) (g := gSet 2) (fk := eN gTup (aCons (eName 2) (aCons (eName 2) (aNil)))) (fv := eN gTup (aCons (eC (.int 0)) (aCons (eN gTup (aNil)) (aNil)))) (fi := iRange (e2 gIx (eName 0) (eC (.int 0)))) (ρ := [some (.fz (encN n rs)), none, none, none, none, none]) (ev n) D.int (fun i => (i, i)) (fun _ => ent []) _ (iRange_v (by simp) (by omega)) rfl (fun i hi => by simp [dstep, ent, tot])) rfl
    rw [e_base] at this
    exact this
  · intro k s t ht hk hs
    obtain ⟨b, f⟩ := s
    obtain ⟨hb, hf⟩ := hs
    have hk4 : k < 4 := by
      rw [ev_length] at hk
      omega
    have e1 := e_longer h hf.fine (fun p w hp => by have := (hf.real p w hp).2; omega)
    have hw := longer_spec rg hf
    have lp := forK_fold (kill := [5]) (i := 3) (g := gSet 5)
      (f := (sCons (sIf (tOr' (tBl (e2 (gDin true) (eName 5) (eName 1))) (tBl (e2 (gB fun i j => decide (i < j)) (e2 gIx (e2 gDget (eName 3) (eName 5)) (eC (.int 0))) (e2 gIx (e2 gDget (eName 1) (eName 5)) (eC (.int 0)))))) (sCons (sSet 1 (eCall 3 F_with_walk (aCons (eName 1) (aCons (eName 5) (aCons (e2 gDget (eName 3) (eName 5)) (aNil)))))) (sNil)) (sNil)) (sNil)))
      (ρ := [some (.fz (encN n rs)), some (.fz (encD b)), none, some (.fz (encD (longer (edges rs) f))), some (.fz (.int t)), none]) (kvs := nMap ent (longer (edges rs) f)) (longer (edges rs) f) (fun kv => keyD kv.1)
      (fun b : WDict => [some (.fz (encN n rs)), some (.fz (encD b)), none, some (.fz (encD (longer (edges rs) f))), some (.fz (.int t)), none]) bet (Fine n) b (by simp [encD]) (by simp [nMap]) (by simp) hb.fine ?_ ?_
    · simp [e1] at lp ⊢
      rw [lp]
      simp
    · intro b kv hkv hb
      have hl := nLook_of_mem (p := kv.1) (d := kv.2) hw.fine.nd hkv
      have ew := e_with_walk n4 hb kv.1 kv.2
      obtain ⟨⟨i, j⟩, w⟩ := kv
      simp at hl ew
      unfold bet
      cases h2 : nLook b (i, j) with
      | none =>
        simp [keyD, encD] at ew
        simp [keyD, encD, hl, h2, ew]
      | some v =>
        by_cases h3 : tot w < tot v
        · simp [keyD, encD, ent] at ew
          simp [keyD, encD, hl, h2, ew, h3, ent]
        · simp [keyD, encD, hl, h2, h3, ent]
    · intro b kv hkv hb
      have hr := hw.fine.rg kv.1 (List.mem_map.mpr ⟨kv, hkv, rfl⟩)
      unfold bet
      split
      · exact hb.put hr _
      · split
        · exact hb.put hr _
        · exact hb
  · intro k s t ht hk hs
    have hw := longer_spec rg hs.2
    exact ⟨bet_spec hs.1 hw, hw⟩
  · rw [foldl_shN, ev_length]
    simp [best]
end Kx
set_option Elab.async false
set_option linter.all false
set_option maxRecDepth 100000
set_option maxHeartbeats 4000000
/-! bounds_of, heights_of, pulled, bound_evidence: evaluation -/
namespace Kx
open PySem PySem.Spec PyProof.Rows L2
theorem cstep_v {vs : List Nat} {g : Fg} {ft : Ft} {fe : Fe} {d y : D} {ρ ρ1 ρ2 ρ3 R : Rho} (hg : g d ρ = some ρ1) (ht : ft ρ1 = some (true, ρ2)) (he : fe ρ2 = some (y, ρ3)) (hw : wipeR ρ3 vs = R) : cstep vs g ft fe d ρ = some (some y, R) := by
  unfold cstep
  rw [hg]
  simp only [ht, he, hw]
/-- the numbers -/
def B (n : Nat) (rs : List Rule) (i j : Int) : Option Int := (nLook (best n (edges rs)) (i, j)).map tot
def encB (n : Nat) (f : Int → Int → Option Int) : D := .lst ((ev n).map fun i => .lst ((ev n).map fun j => encO (f i j)))
@[simp] theorem isNon_encO (o : Option Int) : isNon (encO o) = o.isNone := by
  cases o <;> rfl
theorem B_dist {n : Nat} {rs : List Rule} (h : OkN n rs) {hh : Int → Int} (p : Pot (edges rs) hh) {i : Int} (hi : Rg n i) (j : Int) : Dist (edges rs) i j (B n rs i j) := best_dist h.n1 p (edges_rg h) (best_spec (edges_rg h)) hi j
theorem e_bounds_of {n : Nat} {rs : List Rule} (h : OkN n rs) {hh : Int → Int} (p : Pot (edges rs) hh) : F_bounds_of [encN n rs] = some (encB n (B n rs)) := by
  unfold F_bounds_of b_bounds_of
  have n4 := h.n4
  refine run_sl _ rfl (Ret.nx (ρ1 := [some (.fz (encN n rs)), none, none, none, none]) (by simp [e_first_round h p]) (Ret.nx (ρ1 := [some (.fz (encN n rs)), some (.fz (encD (best n (edges rs)))), none, none, none]) (by simp [e_shortest h]) (Ret.nx (ρ1 := [some (.fz (encN n rs)), some (.fz (encD (best n (edges rs)))), some (.fz (.int n)), none, none]) (by simp) (Ret.rt (Ret.e
    (eComp_map (ev n) D.int (fun i => .lst ((ev n).map fun j => encO (B n rs i j))) _ (iRange_v (by simp) (by omega)) rfl fun i hi => cstep_v (by simp; rfl) (by simp; rfl) (eComp_map (ev n) D.int (fun j => encO (B n rs i j)) _ (iRange_v (by simp) (by omega)) rfl fun j hj => ?_) ?_))))))
  · unfold B
    cases hl : nLook (best n (edges rs)) (i, j) <;> simp [cstep, encD, hl, ent, encO]
  · simp
theorem e_kept_bounds {n : Nat} {rs : List Rule} (h : OkN n rs) {hh : Int → Int} (p : Pot (edges rs) hh) : F_kept_bounds [encN n rs] = some (encB n (B n rs)) := by
  unfold F_kept_bounds b_kept_bounds
  simp [runD, e_bounds_of h p]
  simp [encB]
theorem e_check_kept {n : Nat} {rs : List Rule} (h : OkN n rs) {hh : Int → Int} (p : Pot (edges rs) hh) : F_check_kept [encN n rs] = some .non := by
  unfold F_check_kept b_check_kept
  simp [runD, e_first_round h p, e_check_net h]
theorem encB_row {n : Nat} {f : Int → Int → Option Int} {i : Int} (hi : Rg n i) : gIx (encB n f) (.int i) = some (.lst ((ev n).map fun j => encO (f i j))) := atI_ev hi _
theorem B_self {n : Nat} {rs : List Rule} (h : OkN n rs) {hh : Int → Int} (p : Pot (edges rs) hh) {i : Int} (hi : Rg n i) : B n rs i i = some 0 :=
  Dist.uniq (B_dist h p hi i) ⟨⟨[], rfl, rfl⟩, fun w hw => by have := pot_walk p hw; omega⟩
/-! ### heights_of -/
def mins (n : Nat) (f : Int → Int → Option Int) (e : Int) : List Int := (ev n).filterMap fun o => f o e
def hgt (n : Nat) (f : Int → Int → Option Int) (e : Int) : Int := match mins n f e with
  | [] => 0
  | x :: xs => minL x xs
def encI (l : List Int) : D := .tup (l.map D.int)
theorem mins_ne {n : Nat} {f : Int → Int → Option Int} {e : Int} (he : Rg n e) (h : f e e = some 0) : mins n f e ≠ [] := fun z => by
  have : (0 : Int) ∈ mins n f e := List.mem_filterMap.mpr ⟨e, mem_ev.mpr he, h⟩
  rw [z] at this
  cases this
theorem flat_single {α β : Type} (f : α → β) (l : List α) : l.flatMap (fun a => [f a]) = l.map f := by
  induction l with
  | nil => rfl
  | cons a l ih => simp [ih]
theorem e_heights_of {n : Nat} {rs : List Rule} (h : OkN n rs) {hh : Int → Int} (p : Pot (edges rs) hh) : F_heights_of [encN n rs] = some (encI ((ev n).map (hgt n (B n rs)))) := by
  unfold F_heights_of b_heights_of
  have n4 := h.n4
  refine run_sl _ rfl (Ret.nx (ρ1 := [some (.fz (encN n rs)), some (.fz (encB n (B n rs))), none, none, none, none, none]) (by simp [e_bounds_of h p]) (Ret.nx (ρ1 := [some (.fz (encN n rs)), some (.fz (encB n (B n rs))), some (.ol []), none, none, none, none]) (by simp)
    (Ret.nx (for_cnt (ev n) D.int (fun s : List Int => [some (.fz (encN n rs)), some (.fz (encB n (B n rs))), some (.ol (s.map D.int)), none, none, none, none]) (fun s e => s ++ [hgt n (B n rs) e]) (fun k s => s.length ≤ k) [] (iRange_v (by simp) (by omega)) (by simp) (by simp) ?_ ?_) (Ret.rt (Ret.v ?_)))))
  · intro k s e he hk hs
    have he' := mem_ev.mp he
    have hk4 : s.length < 1000 := by
      rw [ev_length] at hk
      omega
    have c1 := eComp_map (vs := [5]) (g := gSet 5) (ft := tYes') (fi := iRange (e2 gIx (eName 0) (eC (.int 0)))) (fe := e2 gIx (e2 gIx (eName 1) (eName 5)) (eName 3)) (ρ := [some (.fz (encN n rs)), some (.fz (encB n (B n rs))), some (.ol (s.map D.int)), some (.fz (.int e)), none, none, none]) (ev n) D.int (fun o => encO (B n rs o e)) _ (iRange_v (by simp) (by omega)) rfl fun o ho => by
      simp [cstep, encB_row (mem_ev.mp ho), atI_ev he']
    have c2 := eComp_fm (vs := [6]) (g := gSet 6) (ft := tBl (e1 gNotN (eName 6))) (fi := iSeq (eName 4)) (fe := eName 6) (ρ := [some (.fz (encN n rs)), some (.fz (encB n (B n rs))), some (.ol (s.map D.int)), some (.fz (.int e)), some (.fz (.lst ((ev n).map fun o => encO (B n rs o e)))), none, none]) (ev n) (fun o => encO (B n rs o e)) (fun o => (B n rs o e).map D.int) _ (by simp) rfl fun o ho => by
      cases hB : B n rs o e <;> simp [cstep, hB, encO]
    have c3 : (ev n).filterMap (fun o => (B n rs o e).map D.int) = (mins n (B n rs) e).map D.int := by
      unfold mins
      rw [List.map_filterMap]
    have c4 : gMinL [.lst ((mins n (B n rs) e).map D.int)] = some (.int (hgt n (B n rs) e)) := by
      unfold hgt
      cases hm : mins n (B n rs) e with
      | nil => exact absurd hm (mins_ne he' (B_self h p he'))
      | cons x xs => exact x_minI x xs
    rw [c3] at c2
    simp at c1 c2 ⊢
    simp [c1, c2, c4, hk4]
  · intro k s e he hk hs
    simp
    omega
  · rw [foldl_flat, flat_single]
    simp [encI]
end Kx
set_option Elab.async false
set_option linter.all false
set_option maxRecDepth 100000
set_option maxHeartbeats 4000000
/-! pulled, bound_evidence: evaluation -/
namespace Kx
open PySem PySem.Spec PyProof.Rows L2
section
variable (n : Nat) (f : Int → Int → Option Int) (s : Int)
def Kn : List Int := (ev n).filter fun e => (f s e).isSome
def bv (e : Int) : Int := (f s e).getD 0
def lft0 : Int := match (Kn n f s).map fun e => hgt n f e - hgt n f s - bv f s e with
  | [] => 0
  | x :: xs => maxL x xs
def lst1 (e L o : Int) : Int := match f e o with
  | some d => max L (bv f s o - d - (hgt n f e - hgt n f s))
  | none => L
def lst2 (L e : Int) : Int := if (Kn n f s).contains e = true then L else (Kn n f s).foldl (lst1 n f s e) L
def lft : Int := (ev n).foldl (lst2 n f s) (lft0 n f s)
def pul (e : Int) : Int := if (Kn n f s).contains e = true then bv f s e else hgt n f e - hgt n f s + lft n f s
end
theorem mem_Kn {n : Nat} {f : Int → Int → Option Int} {s e : Int} : e ∈ Kn n f s ↔ Rg n e ∧ (f s e).isSome = true := by
  unfold Kn
  rw [List.mem_filter, mem_ev]
theorem encI_at {n : Nat} {g : Int → Int} {i : Int} (hi : Rg n i) : gIx (encI ((ev n).map g)) (.int i) = some (.int (g i)) := by
  unfold encI
  rw [List.map_map]
  exact atI_ev hi _
theorem fm_filter {α β : Type} (t : α → Bool) (g : α → β) (l : List α) : l.filterMap (fun a => if t a = true then some (g a) else none) = (l.filter t).map g := by
  induction l with
  | nil => rfl
  | cons a l ih =>
    by_cases h : t a = true
    · simp [h, ih]
    · simp [h, ih]
theorem e_pulled {n : Nat} {rs : List Rule} (h : OkN n rs) {hh : Int → Int} (p : Pot (edges rs) hh) {s : Int} (hs : Rg n s) : F_pulled [encN n rs, .int s] = some (encI ((ev n).map (pul n (B n rs) s))) := by
  unfold F_pulled b_pulled
  have n4 := h.n4
  have hsK : s ∈ Kn n (B n rs) s := mem_Kn.mpr ⟨hs, by rw [B_self h p hs]; rfl⟩
  generalize hb : B n rs = b at *
  have eb := e_bounds_of h p
  have eh := e_heights_of h p
  rw [hb] at eb eh
  refine run_sl _ rfl (Ret.nx (ρ1 := [some (.fz (encN n rs)), some (.fz (.int s)), some (.fz (encB n b)), none, none, none, none, none, none]) (by simp [eb])
    (Ret.nx (ρ1 := [some (.fz (encN n rs)), some (.fz (.int s)), some (.fz (encB n b)), some (.fz (encI ((ev n).map (hgt n b)))), none, none, none, none, none]) (by simp [eh])
    (Ret.nx (ρ1 := [some (.fz (encN n rs)), some (.fz (.int s)), some (.fz (encB n b)), some (.fz (encI ((ev n).map (hgt n b)))), some (.fz (.lst ((Kn n b s).map D.int))), none, none, none, none]) ?_
    (Ret.nx (ρ1 := [some (.fz (encN n rs)), some (.fz (.int s)), some (.fz (encB n b)), some (.fz (encI ((ev n).map (hgt n b)))), some (.fz (.lst ((Kn n b s).map D.int))), none, some (.fz (.int (lft0 n b s))), none, none]) ?_
    (Ret.nx (for_fold (ev n) D.int (fun L : Int => [some (.fz (encN n rs)), some (.fz (.int s)), some (.fz (encB n b)), some (.fz (encI ((ev n).map (hgt n b)))), some (.fz (.lst ((Kn n b s).map D.int))), none, some (.fz (.int L)), none, none]) (lst2 n b s) (fun _ => True) (lft0 n b s) (iRange_v (by simp) (by omega)) (by simp) trivial ?_ fun _ _ _ _ => trivial)
    (Ret.nx (ρ1 := [some (.fz (encN n rs)), some (.fz (.int s)), some (.fz (encB n b)), some (.fz (encI ((ev n).map (hgt n b)))), some (.fz (.lst ((Kn n b s).map D.int))), none, some (.fz (.int (lft n b s))), none, some (.ol [])]) (by simp [lft])
    (Ret.nx (for_cnt (ev n) D.int (fun t : List Int => [some (.fz (encN n rs)), some (.fz (.int s)), some (.fz (encB n b)), some (.fz (encI ((ev n).map (hgt n b)))), some (.fz (.lst ((Kn n b s).map D.int))), none, some (.fz (.int (lft n b s))), none, some (.ol (t.map D.int))]) (fun t e => t ++ [pul n b s e]) (fun k t => t.length ≤ k) [] (iRange_v (by simp) (by omega)) (by simp) (by simp) ?_ ?_) (Ret.rt (Ret.v ?_)))))))))
  · have c := eComp_fm (vs := [5]) (g := gSet 5) (fi := iRange (e2 gIx (eName 0) (eC (.int 0)))) (ft := tBl (e1 gNotN (e2 gIx (e2 gIx (eName 2) (eName 1)) (eName 5)))) (fe := eName 5) (ρ := [some (.fz (encN n rs)), some (.fz (.int s)), some (.fz (encB n b)), some (.fz (encI ((ev n).map (hgt n b)))), none, none, none, none, none]) (ev n) D.int (fun e => if (b s e).isSome = true then some (.int e) else none) _ (iRange_v (by simp) (by omega)) rfl fun e he => by
      cases hB : b s e <;> simp [cstep, encB_row hs, atI_ev (mem_ev.mp he), hB, encO]
    rw [fm_filter (fun e => (b s e).isSome) D.int] at c
    exact sSet_v c
  · have c := eComp_map (vs := [5]) (g := gSet 5) (fi := iSeq (eName 4)) (ft := tYes') (fe := e2 (gI fun i j => i - j) (e2 (gI fun i j => i - j) (e2 gIx (eName 3) (eName 5)) (e2 gIx (eName 3) (eName 1))) (e2 gIx (e2 gIx (eName 2) (eName 1)) (eName 5))) (ρ := [some (.fz (encN n rs)), some (.fz (.int s)), some (.fz (encB n b)), some (.fz (encI ((ev n).map (hgt n b)))), some (.fz (.lst ((Kn n b s).map D.int))), none, none, none, none]) (Kn n b s) D.int (fun e => .int (hgt n b e - hgt n b s - bv b s e)) _ (by simp) rfl fun e he => by
      obtain ⟨h1, h2⟩ := mem_Kn.mp he
      obtain ⟨d, hd⟩ := Option.isSome_iff_exists.mp h2
      simp [cstep, encB_row hs, atI_ev h1, hd, encO, encI_at h1, encI_at hs, bv]
    have c2 : gMaxL [.lst ((Kn n b s).map fun e => .int (hgt n b e - hgt n b s - bv b s e))] = some (.int (lft0 n b s)) := by
      rw [show ((Kn n b s).map fun e => D.int (hgt n b e - hgt n b s - bv b s e)) = ((Kn n b s).map fun e => hgt n b e - hgt n b s - bv b s e).map D.int by rw [List.map_map]; rfl]
      unfold lft0
      cases hm : (Kn n b s).map fun e => hgt n b e - hgt n b s - bv b s e with
      | nil =>
        rw [List.map_eq_nil_iff] at hm
        rw [hm] at hsK
        cases hsK
      | cons x xs => exact x_maxI x xs
    exact sSet_v (eN_v (a1_v c) c2)
  · intro L e he _
    have he' := mem_ev.mp he
    by_cases hK : (Kn n b s).contains e = true
    · simp [lst2, hK]
      have : e ∈ Kn n b s := by simpa using hK
      simp [this]
    · have hK' : e ∉ Kn n b s := by simpa using hK
      have lp := for_fold (kill := [7]) (g := gSet 7) (fi := iSeq (eName 4))
        (f := (sCons (sIf (tBl (e1 gNotN (e2 gIx (e2 gIx (eName 2) (eName 5)) (eName 7)))) (sCons (sSet 6 (eN gMax2 (aCons (eName 6) (aCons (e2 (gI fun i j => i - j) (e2 (gI fun i j => i - j) (e2 gIx (e2 gIx (eName 2) (eName 1)) (eName 7)) (e2 gIx (e2 gIx (eName 2) (eName 5)) (eName 7))) (e2 (gI fun i j => i - j) (e2 gIx (eName 3) (eName 5)) (e2 gIx (eName 3) (eName 1)))) (aNil))))) (sNil)) (sNil)) (sNil)))
        (ρ := [some (.fz (encN n rs)), some (.fz (.int s)), some (.fz (encB n b)), some (.fz (encI ((ev n).map (hgt n b)))), some (.fz (.lst ((Kn n b s).map D.int))), some (.fz (.int e)), some (.fz (.int L)), none, none]) (Kn n b s) D.int
        (fun L : Int => [some (.fz (encN n rs)), some (.fz (.int s)), some (.fz (encB n b)), some (.fz (encI ((ev n).map (hgt n b)))), some (.fz (.lst ((Kn n b s).map D.int))), some (.fz (.int e)), some (.fz (.int L)), none, none]) (lst1 n b s e) (fun _ => True) L (by simp) (by simp) trivial ?_ fun _ _ _ _ => trivial
      · simp [hK', lst2] at lp ⊢
        rw [lp]
        simp
      · intro L o ho _
        obtain ⟨h1, h2⟩ := mem_Kn.mp ho
        obtain ⟨d, hd⟩ := Option.isSome_iff_exists.mp h2
        cases hB : b e o with
        | none => simp [encB_row hs, encB_row he', atI_ev h1, hB, encO, lst1]
        | some d' => simp [encB_row hs, encB_row he', atI_ev h1, hB, hd, encO, lst1, encI_at he', encI_at hs, bv]
  · intro k t e he hk ht
    have he' := mem_ev.mp he
    have hk4 : t.length < 1000 := by
      rw [ev_length] at hk
      omega
    by_cases hK : e ∈ Kn n b s
    · obtain ⟨d, hd⟩ := Option.isSome_iff_exists.mp (mem_Kn.mp hK).2
      simp [hK, pul, encB_row hs, atI_ev he', hd, encO, bv, hk4]
    · simp [hK, pul, encI_at he', encI_at hs, hk4]
  · intro k t e he hk ht
    simp
    omega
  · rw [foldl_flat, flat_single]
    simp [encI]
/-! ### bound_evidence -/
def told1 (n : Nat) (rs : List Rule) (i j : Int) : D := match nLook (best n (edges rs)) (i, j) with
  | some w => .tup [.tup (w.map encK), encI ((ev n).map (pul n (B n rs) i))]
  | none => .tup [encI ((ev n).map (hgt n (B n rs))), encI ((ev n).filter fun e => (B n rs i e).isNone)]
theorem e_bound_evidence {n : Nat} {rs : List Rule} (h : OkN n rs) {hh : Int → Int} (p : Pot (edges rs) hh) {i j : Int} (hi : Rg n i) (hj : Rg n j) : F_bound_evidence [encN n rs, .int i, .int j] = some (told1 n rs i j) := by
  unfold F_bound_evidence b_bound_evidence
  have n4 := h.n4
  refine run_sl _ rfl (Ret.nx (ρ1 := [some (.fz (encN n rs)), some (.fz (.int i)), some (.fz (.int j)), none, none]) (by simp [e_check_two h hi hj]) (Ret.nx (ρ1 := [some (.fz (encN n rs)), some (.fz (.int i)), some (.fz (.int j)), none, none]) (by simp [e_check_kept h p])
    (Ret.nx (ρ1 := [some (.fz (encN n rs)), some (.fz (.int i)), some (.fz (.int j)), some (.fz (encD (best n (edges rs)))), none]) (by simp [e_shortest h]) ?_)))
  unfold told1
  cases hl : nLook (best n (edges rs)) (i, j) with
  | some w => exact Ret.rt (by simp [encD, hl, ent, Ret, e_pulled h p hi])
  | none =>
    refine Ret.nx (ρ1 := [some (.fz (encN n rs)), some (.fz (.int i)), some (.fz (.int j)), some (.fz (encD (best n (edges rs)))), none]) (by simp [encD, hl]) (Ret.rt ?_)
    have c := eComp_fm (vs := [4]) (g := gSet 4) (fi := iRange (e2 gIx (eName 0) (eC (.int 0)))) (ft := tBl (e2 (gDin true) (eN gTup (aCons (eName 1) (aCons (eName 4) (aNil)))) (eName 3))) (fe := eName 4) (ρ := [some (.fz (encN n rs)), some (.fz (.int i)), some (.fz (.int j)), some (.fz (encD (best n (edges rs)))), none]) (ev n) D.int (fun e => if (B n rs i e).isNone = true then some (.int e) else none) _ (iRange_v (by simp) (by omega)) rfl fun e he => by
      unfold B
      cases hB : nLook (best n (edges rs)) (i, e) <;> simp [cstep, encD, hB]
    rw [fm_filter (fun e => (B n rs i e).isNone) D.int] at c
    simp at c
    refine Ret.v ?_
    simp [e_heights_of h p, c]
    simp [encI]
end Kx
set_option Elab.async false
set_option linter.all false
set_option maxRecDepth 100000
set_option maxHeartbeats 4000000
/-! the law's edges and bounds -/
namespace Kx
open PySem PySem.Spec PyProof.Rows L2
theorem turn_v {kill : List Nat} {g : Fg} {f : Fs} {d : D} {ρ ρ1 ρ2 R : Rho} (hg : g d ρ = some ρ1) (hf : f ρ1 = some (.nx ρ2)) (hw : wipeR ρ2 kill = R) : turnR kill g f d ρ = some (.nx R) := by
  rw [x_turnR, hg]
  simp only [hf, hw]
theorem nx_one {f : Fs} {ρ ρ1 : Rho} (h : f ρ = some (.nx ρ1)) : sCons f sNil ρ = some (.nx ρ1) := by
  rw [x_sCons, h]
  rfl
theorem zip_ev {α : Type} (l : List α) : (l.zipIdx.map fun p => D.int (p.2 : Nat)) = (ev l.length).map D.int := by
  unfold ev
  rw [List.map_map]
  have : l.zipIdx.map (·.2) = List.range l.length := by
    rw [List.zipIdx_map_snd, List.range_eq_range']
  rw [← this, List.map_map]
  rfl
theorem zip_get {α : Type} {l : List α} {p : α × Nat} (h : p ∈ l.zipIdx) : l[p.2]? = some p.1 := by
  obtain ⟨a, i⟩ := p
  exact List.mk_mem_zipIdx_iff_getElem?.mp h
theorem e_law_edges {n : Nat} {rs : List Rule} (h : rs.length ≤ 12) : F_law_edges [encN n rs] = some (.lst ((edges rs).map encE)) := by
  unfold F_law_edges b_law_edges
  refine run_sl _ rfl (Ret.nx (ρ1 := [some (.fz (encN n rs)), some (.ol []), none, none, none, none, none]) (by simp) (Ret.nx (for_cnt rs.zipIdx (fun p => D.int (p.2 : Nat)) (fun s : List Ed => [some (.fz (encN n rs)), some (.ol (s.map encE)), none, none, none, none, none]) (fun s p => s ++ edR p) (fun k s => s.length ≤ 2 * k) []
    (by rw [zip_ev]; exact iRange_v (by simp) (by omega)) (by simp) (by simp) ?_ ?_) (Ret.rt ?_)))
  · intro k s p hp hk hs
    have hg := zip_get hp
    have hx : atI (rs.map encR) (p.2 : Nat) = some (encR p.1) := by
      rw [atI_nat, List.getElem?_map, hg]
      rfl
    obtain ⟨⟨a, b, lo, hi⟩, i⟩ := p
    simp at hk hx
    have h1 : s.length < 1000 := by omega
    have h2 : s.length + 1 < 1000 := by omega
    cases lo <;> cases hi <;> simp [encR, encO, edR, edHi, edLo, encE, encK, Ed.sd, h1, h2] at hx ⊢ <;> simp [hx, encR, encO, edR, edHi, edLo, encE, encK, Ed.sd, h1, h2]
  · intro k s p hp hk hs
    have := edR_len p
    simp only [List.length_append]
    omega
  · rw [foldl_flat]
    exact Ret.v (by simp [edges])
/-! ### _law_bounds -/
abbrev IDict := List ((Int × Int) × Int)
def upB (e : Ed) (f : IDict) (v : Int) : IDict := match nLook f (v, e.a) with
  | none => f
  | some d => match nLook f (v, e.b) with
    | none => nPut f (v, e.b) (d + e.w)
    | some d' => if d + e.w < d' then nPut f (v, e.b) (d + e.w) else f
def roundB (n : Nat) (es : List Ed) (f : IDict) : IDict := es.foldl (fun f e => (ev n).foldl (upB e) f) f
def lawB (n : Nat) (es : List Ed) : IDict := (ev n).foldl (fun f _ => roundB n es f) ((ev n).foldl (fun f i => nPut f (i, i) 0) [])
def CovI (f : IDict) (q : Int × Int) (t : Int) : Prop := ∃ v, nLook f q = some v ∧ v ≤ t
theorem covI_put {f : IDict} {q p : Int × Int} {t w : Int} (h : CovI f q t) (hb : ∀ v, nLook f p = some v → w ≤ v) : CovI (nPut f p w) q t := by
  obtain ⟨v, h1, h2⟩ := h
  unfold CovI
  rw [nLook_put]
  by_cases e : p = q
  · rw [if_pos e]
    exact ⟨w, rfl, Int.le_trans (hb v (e ▸ h1)) h2⟩
  · rw [if_neg e]
    exact ⟨v, h1, h2⟩
theorem covI_new (f : IDict) (p : Int × Int) (w : Int) : CovI (nPut f p w) p w := ⟨w, by rw [nLook_put, if_pos rfl], Int.le_refl _⟩
theorem upB_mono {e : Ed} {f : IDict} {v : Int} {q : Int × Int} {t : Int} (h : CovI f q t) : CovI (upB e f v) q t := by
  unfold upB
  split
  · exact h
  · rename_i d h0
    split
    · rename_i h1
      exact covI_put h fun v hv => by rw [h1] at hv; cases hv
    · rename_i d' h1
      split
      · refine covI_put h fun v hv => ?_
        rw [h1] at hv
        cases hv
        omega
      · exact h
theorem upB_cov {e : Ed} {f : IDict} {v t : Int} (h : CovI f (v, e.a) t) : CovI (upB e f v) (v, e.b) (t + e.w) := by
  obtain ⟨d, h1, h2⟩ := h
  unfold upB
  rw [h1]
  simp only
  split
  · obtain ⟨z, a, b⟩ := covI_new f (v, e.b) (d + e.w)
    exact ⟨z, a, by omega⟩
  · rename_i d' h3
    split
    · obtain ⟨z, a, b⟩ := covI_new f (v, e.b) (d + e.w)
      exact ⟨z, a, by omega⟩
    · exact ⟨d', h3, by omega⟩
theorem foldl_achI {α S : Type} {step : S → α → S} {P Q : S → Prop} (hP : ∀ s b, P s → P (step s b)) (mono : ∀ s b, Q s → Q (step s b)) {a : α} (ach : ∀ s, P s → Q (step s a)) : ∀ {l : List α} {s : S}, P s → a ∈ l → Q (l.foldl step s)
  | b :: l, s, hs, h => by
    rcases List.mem_cons.mp h with e | e
    · subst e
      exact foldl_inv step Q l _ (ach s hs) fun s b _ hs => mono s b hs
    · show Q (l.foldl step (step s b))
      exact foldl_achI hP mono ach (hP s b hs) e
def RealI (E : List Ed) (n : Nat) (f : IDict) : Prop := Fine n f ∧ ∀ p d, nLook f p = some d → ∃ w, IsW E p.1 w p.2 ∧ tot w = d
theorem realI_put {E : List Ed} {n : Nat} {f : IDict} (h : RealI E n f) {q : Int × Int} {d : Int} (hq : Rg n q.1 ∧ Rg n q.2) (hd : ∃ w, IsW E q.1 w q.2 ∧ tot w = d) : RealI E n (nPut f q d) := by
  refine ⟨h.1.put hq d, fun p d' hp => ?_⟩
  rw [nLook_put] at hp
  by_cases e : q = p
  · rw [if_pos e] at hp
    cases hp
    rw [← e]
    exact hd
  · rw [if_neg e] at hp
    exact h.2 p d' hp
theorem upB_real {E : List Ed} {n : Nat} (r : ERg n E) {f : IDict} (h : RealI E n f) {e : Ed} (he : e ∈ E) {v : Int} (hv : Rg n v) : RealI E n (upB e f v) := by
  unfold upB
  split
  · exact h
  · rename_i d h0
    obtain ⟨w, hw, ht⟩ := h.2 _ _ h0
    have hn : ∃ w, IsW E (v, e.b).1 w (v, e.b).2 ∧ tot w = d + e.w := ⟨w ++ [e], isW_snoc hw he rfl, by rw [tot_snoc, ht]⟩
    split
    · exact realI_put h (q := (v, e.b)) ⟨hv, (r e he).2⟩ hn
    · split
      · exact realI_put h (q := (v, e.b)) ⟨hv, (r e he).2⟩ hn
      · exact h
theorem roundB_real {E : List Ed} {n : Nat} (r : ERg n E) {f : IDict} (h : RealI E n f) : RealI E n (roundB n E f) :=
  foldl_inv _ (RealI E n) E f h fun f e he hf => foldl_inv (upB e) (RealI E n) (ev n) f hf fun f v hv hf => upB_real r hf he (mem_ev.mp hv)
def CpI (E : List Ed) (n k : Nat) (f : IDict) : Prop := ∀ i j w, Rg n i → IsW E i w j → w.length ≤ k → CovI f (i, j) (tot w)
theorem inner_mono {n : Nat} {e : Ed} {f : IDict} {q : Int × Int} {t : Int} (h : CovI f q t) : CovI ((ev n).foldl (upB e) f) q t :=
  foldl_inv (upB e) (fun f => CovI f q t) (ev n) f h fun f v _ hf => upB_mono hf
theorem roundB_cp {E : List Ed} {n k : Nat} {f : IDict} (h : CpI E n k f) : CpI E n (k + 1) (roundB n E f) := by
  intro i j w hi hw hl
  by_cases hk : w.length ≤ k
  · exact foldl_inv (fun f e => (ev n).foldl (upB e) f) (fun f => CovI f (i, j) (tot w)) E f (h i j w hi hw hk) fun f e _ hf => inner_mono hf
  · have hne : w ≠ [] := fun z => by rw [z] at hk; simp at hk
    obtain ⟨u, e, rfl⟩ : ∃ u e, w = u ++ [e] := ⟨w.dropLast, w.getLast hne, (List.dropLast_concat_getLast hne).symm⟩
    obtain ⟨m, h1, h2, h3, h4⟩ := isW_split hw
    subst h3
    cases h4
    rw [tot_snoc]
    have hc := h i e.a u hi h1 (by simp at hl; omega)
    exact foldl_achI (a := e) (step := fun f e => (ev n).foldl (upB e) f) (P := fun f => CovI f (i, e.a) (tot u)) (Q := fun f => CovI f (i, e.b) (tot u + e.w)) (fun f b hf => inner_mono hf) (fun f b hf => inner_mono hf)
      (fun f hf => foldl_achI (a := i) (step := upB e) (P := fun f => CovI f (i, e.a) (tot u)) (Q := fun f => CovI f (i, e.b) (tot u + e.w)) (fun f b hf => upB_mono hf) (fun f b hf => upB_mono hf) (fun f hf => upB_cov hf) hf (mem_ev.mpr hi)) hc h2
def baseB (n : Nat) : IDict := (ev n).foldl (fun f i => nPut f (i, i) 0) []
theorem baseB_real {E : List Ed} {n : Nat} : RealI E n (baseB n) :=
  foldl_inv (fun (f : IDict) i => nPut f (i, i) 0) (RealI E n) (ev n) [] ⟨Fine.nil, fun p d hp => by simp [nLook] at hp⟩ fun f i hi hf => realI_put hf (q := (i, i)) ⟨mem_ev.mp hi, mem_ev.mp hi⟩ ⟨[], rfl, rfl⟩
theorem baseB_cp {E : List Ed} {n : Nat} : CpI E n 0 (baseB n) := by
  intro i j w hi hw hl
  have : w = [] := List.length_eq_zero_iff.mp (by omega)
  subst this
  cases hw
  have hc := foldl_ach (a := i) (step := fun (f : IDict) i => nPut f (i, i) 0) (Q := fun g => nLook g (i, i) = some 0) (fun g b hg => by
    rw [nLook_put]
    split
    · rfl
    · exact hg) (fun g => by rw [nLook_put, if_pos rfl]) (s := []) (mem_ev.mpr hi)
  exact ⟨0, hc, Int.le_refl _⟩
theorem rounds_spec {E : List Ed} {n : Nat} (r : ERg n E) : ∀ (l : List Int) (k : Nat) (f : IDict), RealI E n f → CpI E n k f → RealI E n (l.foldl (fun f _ => roundB n E f) f) ∧ CpI E n (k + l.length) (l.foldl (fun f _ => roundB n E f) f)
  | [], k, f, h1, h2 => ⟨h1, h2⟩
  | a :: l, k, f, h1, h2 => by
    have := rounds_spec r l (k + 1) (roundB n E f) (roundB_real r h1) (roundB_cp h2)
    rw [List.length_cons, show k + (l.length + 1) = k + 1 + l.length by omega]
    exact this
theorem lawB_dist {E : List Ed} {n : Nat} {h : Int → Int} (p : Pot E h) (r : ERg n E) {i : Int} (hi : Rg n i) (j : Int) : Dist E i j (nLook (lawB n E) (i, j)) := by
  obtain ⟨h1, h2⟩ := rounds_spec r (ev n) 0 (baseB n) baseB_real baseB_cp
  rw [ev_length, Nat.zero_add] at h2
  change RealI E n (lawB n E) at h1
  change CpI E n n (lawB n E) at h2
  cases hl : nLook (lawB n E) (i, j) with
  | none =>
    intro w hw
    obtain ⟨v, a, b, _⟩ := short_walk p r w.length (Nat.le_refl _) hw hi
    obtain ⟨z, hz, _⟩ := h2 i j v hi a (by omega)
    rw [hl] at hz
    cases hz
  | some v =>
    refine ⟨h1.2 _ _ hl, fun w hw => ?_⟩
    obtain ⟨u, a, b, c⟩ := short_walk p r w.length (Nat.le_refl _) hw hi
    obtain ⟨z, hz, hz2⟩ := h2 i j u hi a (by omega)
    rw [hl] at hz
    cases hz
    omega
def encID (f : IDict) : D := .dct (nMap D.int f)
@[simp] theorem nLook_int (kvs : IDict) (p : Int × Int) : nLook (nMap D.int kvs) p = (nLook kvs p).map D.int := nLook_map D.int p kvs
theorem e_law_bounds {n : Nat} {rs : List Rule} (h : OkN n rs) : F_law_bounds [encN n rs] = some (encID (lawB n (edges rs))) := by
  unfold F_law_bounds b_law_bounds
  have n4 := h.n4
  have rl := h.len
  have rg := edges_rg h
  have small : ∀ f : IDict, Fine n f → (nMap D.int f).length < 1000 := fun f hf => by
    have := hf.len16 n4
    rw [nMap_length]
    omega
  refine run_sl _ rfl (Ret.nx (ρ1 := [some (.fz (encN n rs)), some (.od []), none, none, none, none, none, none, none]) (by simp)
    (Ret.nx (for_fold (ev n) D.int (fun f : IDict => [some (.fz (encN n rs)), some (.od (nMap D.int f)), none, none, none, none, none, none, none]) (fun f i => nPut f (i, i) 0) (Fine n) [] (iRange_v (by simp) (by omega)) (by simp [nMap]) Fine.nil ?_ ?_)
    (Ret.nx (for_fold (ev n) D.int (fun f : IDict => [some (.fz (encN n rs)), some (.od (nMap D.int f)), none, none, none, none, none, none, none]) (fun f _ => roundB n (edges rs) f) (RealI (edges rs) n) (baseB n) (iRange_v (by simp) (by omega)) (by simp [baseB]) baseB_real ?_ ?_) (Ret.rt (Ret.v ?_)))))
  · intro f i hi hf
    have := nPut_map D.int (i, i) 0 f
    simp [small f hf, this]
  · intro f i hi hf
    exact hf.put ⟨mem_ev.mp hi, mem_ev.mp hi⟩ _
  · intro f t ht hf
    refine turn_v (by simp; rfl) (nx_one (for_fold (edges rs) encE (fun f : IDict => [some (.fz (encN n rs)), some (.od (nMap D.int f)), none, some (.fz (.int t)), none, none, none, none, none]) (fun f e => (ev n).foldl (upB e) f) (RealI (edges rs) n) f (by simp [e_law_edges (show rs.length ≤ 12 by omega)]) (by simp) hf ?_ ?_)) (by simp [roundB])
    · intro f e he hf
      refine turn_v (by simp [encE]; rfl) (nx_one (for_fold (ev n) D.int (fun f : IDict => [some (.fz (encN n rs)), some (.od (nMap D.int f)), none, some (.fz (.int t)), some (.fz (encK e)), some (.fz (.int e.a)), some (.fz (.int e.b)), some (.fz (.int e.w)), none]) (upB e) (RealI (edges rs) n) f (iRange_v (by simp) (by omega)) (by simp) hf ?_ ?_)) (by simp)
      · intro f v hv hf
        unfold upB
        cases h1 : nLook f (v, e.a) with
        | none => simp [h1]
        | some d =>
          have hp := nPut_map D.int (v, e.b) (d + e.w) f
          cases h2 : nLook f (v, e.b) with
          | none => simp [h1, h2, small f hf.1, hp]
          | some d' =>
            by_cases h3 : d + e.w < d'
            · simp [h1, h2, small f hf.1, hp, h3]
            · simp [h1, h2, small f hf.1, hp, h3]
      · intro f v hv hf
        exact upB_real rg hf he (mem_ev.mp hv)
    · intro f e he hf
      exact foldl_inv (upB e) (RealI (edges rs) n) (ev n) f hf fun f v hv hf => upB_real rg hf he (mem_ev.mp hv)
  · intro f t ht hf
    exact roundB_real rg hf
  · simp [encID, lawB, baseB]
end Kx
set_option Elab.async false
set_option linter.all false
set_option maxRecDepth 100000
set_option maxHeartbeats 4000000
/-! the judges: edges named by data, walks -/
namespace Kx
open PySem PySem.Spec PyProof.Rows L2
mutual
def Pl : D → Bool
  | .dct _ => false
  | .str x => PyData.strOk x
  | .tup ds => decide (ds.length ≤ 900) && PlA ds
  | .lst ds => decide (ds.length ≤ 900) && PlA ds
  | .non => true
  | .bl _ => true
  | .int _ => true
def PlA : List D → Bool
  | [] => true
  | d :: ds => Pl d && PlA ds
end
theorem PlA_iff : ∀ {ds : List D}, PlA ds = true ↔ ∀ d ∈ ds, Pl d = true
  | [] => by simp [PlA]
  | d :: ds => by
    have := PlA_iff (ds := ds)
    simp [PlA, this]
theorem plTup {ds : List D} (h : Pl (.tup ds) = true) : ds.length ≤ 900 ∧ PlA ds = true := by
  unfold Pl at h
  simpa using h
theorem plLst {ds : List D} (h : Pl (.lst ds) = true) : ds.length ≤ 900 ∧ PlA ds = true := by
  unfold Pl at h
  simpa using h
theorem plMk {ds : List D} (h : ds.length ≤ 900) (h2 : PlA ds = true) : Pl (.tup ds) = true := by
  unfold Pl
  simp [h, h2]
theorem plMkl {ds : List D} (h : ds.length ≤ 900) (h2 : PlA ds = true) : Pl (.lst ds) = true := by
  unfold Pl
  simp [h, h2]
theorem plTwo {a b : D} (h : Pl (.tup [a, b]) = true) : Pl a = true ∧ Pl b = true := by
  have := (plTup h).2
  simp only [PlA, Bool.and_true, Bool.and_eq_true] at this
  exact this
theorem plNo {d : D} (h : Pl d = true) : noDct d = true := by
  cases d <;> first | rfl | (simp [Pl] at h)
theorem strOk_high : PyData.strOk ("high" : Str) = true := by decide +kernel
theorem strOk_low : PyData.strOk ("low" : Str) = true := by decide +kernel
theorem high_low : ("high" : Str) ≠ "low" := by decide
theorem Ed.sdOk (e : Ed) : PyData.strOk e.sd = true := by
  unfold Ed.sd
  split
  · exact strOk_high
  · exact strOk_low
theorem eqSS (neg : Bool) (x y : Str) (hx : PyData.strOk x = true) (hy : PyData.strOk y = true) : gEqv neg (.str x) (.str y) = some (.bl (if neg = true then !(x == y) else x == y)) := by
  simp [gEqv, py1, py0, SeqAt.shaped, PyData.canLay0, PyData.depth, hx, hy, PyData.eqv]
theorem eqKK (i j : Int) (x y : Str) (hx : PyData.strOk x = true) (hy : PyData.strOk y = true) : gEqv false (.tup [.int i, .str x]) (.tup [.int j, .str y]) = some (.bl (i == j && x == y)) := by
  simp [gEqv, py1, py0s, py0, SeqAt.shaped, PyData.canLay0, PyData.canLayAll0, PyData.depth, PyData.depthAll, hx, hy, PyData.eqv, PyData.eqvAll]
def edOf (i : Nat) (r : Rule) (x : Str) : Option Ed :=
  if x = "high" then r.hi.map fun h => ⟨i, true, r.s, r.e, h⟩ else if x = "low" then r.lo.map fun l => ⟨i, false, r.e, r.s, 0 - l⟩ else none
def edgeAt (rs : List Rule) : D → Option Ed
  | .tup [.int i, .str x] => if 0 ≤ i then match rs[i.toNat]? with
      | some r => edOf i.toNat r x
      | none => none
    else none
  | _ => none
def encA : Option Ed → D
  | none => .non
  | some e => .tup [.int e.a, .int e.b, .int e.w]
/-- what is no pair -/
theorem two_cases (ds : List D) : (∃ a b, ds = [a, b]) ∨ (¬ ((ds.length : Int) = 2)) := by
  match ds with
  | [] => exact .inr (by simp)
  | [a] => exact .inr (by simp)
  | [a, b] => exact .inl ⟨a, b, rfl⟩
  | a :: b :: c :: ds => exact .inr (by simp; omega)
theorem edgeAt_len {rs : List Rule} {ds : List D} (h : ¬ ((ds.length : Int) = 2)) : edgeAt rs (.tup ds) = none := by
  unfold edgeAt
  split
  · rename_i heq
    cases heq
    simp at h
  · rfl
theorem e_edge_of {n : Nat} {rs : List Rule} (d : D) (h : Pl d = true) : F_edge_of [encN n rs, d] = some (encA (edgeAt rs d)) := by
  unfold F_edge_of b_edge_of
  cases d with
  | dct k => cases h
  | non => simp [runD, edgeAt, encA]
  | bl b => simp [runD, edgeAt, encA]
  | int b => simp [runD, edgeAt, encA]
  | str b => simp [runD, edgeAt, encA]
  | lst b => simp [runD, edgeAt, encA]
  | tup ds =>
    rcases two_cases ds with ⟨a, b, rfl⟩ | hl
    · obtain ⟨pa, pb⟩ := plTwo h
      cases a with
      | dct k => cases pa
      | non => simp [runD, edgeAt, encA, e_is_between .non _ _ rfl]
      | bl k => simp [runD, edgeAt, encA, e_is_between (.bl k) _ _ rfl]
      | str k => simp [runD, edgeAt, encA, e_is_between (.str k) _ _ rfl]
      | tup k => simp [runD, edgeAt, encA, e_is_between (.tup k) _ _ rfl]
      | lst k => simp [runD, edgeAt, encA, e_is_between (.lst k) _ _ rfl]
      | int i =>
        by_cases hi : 0 ≤ i ∧ i ≤ (rs.length : Int) - 1
        · have bt := btw_t hi
          have hlt : i.toNat < rs.length := by omega
          have hg : rs[i.toNat]? = some rs[i.toNat] := List.getElem?_eq_getElem hlt
          have hx : atI (rs.map encR) i = some (encR rs[i.toNat]) := by
            rw [atI_of _ hi.1, List.getElem?_map, hg]
            rfl
          cases b with
          | dct k => cases pb
          | non => simp [runD, edgeAt, encA, bt]
          | bl k => simp [runD, edgeAt, encA, bt]
          | int k => simp [runD, edgeAt, encA, bt]
          | tup k => simp [runD, edgeAt, encA, bt]
          | lst k => simp [runD, edgeAt, encA, bt]
          | str x =>
            have hxx : edgeAt rs (.tup [.int i, .str x]) = edOf i.toNat rs[i.toNat] x := by
              unfold edgeAt
              simp only [if_pos hi.1, hg]
            rw [hxx]
            generalize rs[i.toNat] = r at hx
            obtain ⟨s, e, lo, hh⟩ := r
            simp only [encR] at hx
            by_cases h1 : x = "high"
            · subst h1
              have eq1 := eqSS false "high" "high" strOk_high strOk_high
              simp at eq1
              cases hh <;> simp [runD, bt, hx, gNotInT, eq1, encO, edOf, encA]
            · by_cases h2 : x = "low"
              · subst h2
                have eq1 := eqSS false "low" "high" strOk_low strOk_high
                have lh : ((("low" : Str) == "high") = false) := by decide
                simp only [lh] at eq1
                simp at eq1
                cases lo <;> cases hh <;> simp [runD, bt, hx, gNotInT, eq1, encO, edOf, encA, Ne.symm high_low]
              · simp [runD, bt, gNotInT, h1, h2, edOf, encA]
        · have bt : F_is_between [.int i, .int 0, .int ((rs.length : Int) - 1)] = some (.bl false) := by
            rw [e_btw]
            simp
            omega
          have : edgeAt rs (.tup [.int i, b]) = none := by
            unfold edgeAt
            split
            · rename_i j x heq
              cases heq
              split
              · rw [List.getElem?_eq_none (by omega)]
              · rfl
            · rfl
          simp [runD, bt, this, encA]
    · simp [runD, hl, edgeAt_len hl, encA]
/-! ### walks -/
def stepE (rs : List Rule) (here : Int) (d : D) : Option Ed := match edgeAt rs d with
  | some e => if e.a = here then some e else none
  | none => none
def walkD (rs : List Rule) : Int → List D → Option (Int × Int)
  | here, [] => some (here, 0)
  | here, d :: ds => match stepE rs here d with
    | some e => match walkD rs e.b ds with
      | some (x, l) => some (x, e.w + l)
      | none => none
    | none => none
def walkV (rs : List Rule) (start : Int) : D → Option (Int × Int)
  | .tup ds => walkD rs start ds
  | _ => none
theorem walk_loop {n : Nat} {rs : List Rule} {kill : List Nat} {g : Fg} {f : Fs} (R : Int → Rho) (h : ∀ here d, Pl d = true → match stepE rs here d with | some e => turnR kill g f d (R here) = some (.nx (R e.b)) | none => ∃ ρ, turnR kill g f d (R here) = some (.rt .non ρ)) :
    ∀ (ds : List D) (here : Int), PlA ds = true → match walkD rs here ds with | some (x, _) => loopR (turnR kill g f) ds (R here) = some (.nx (R x)) | none => ∃ ρ, loopR (turnR kill g f) ds (R here) = some (.rt .non ρ)
  | [], here, _ => rfl
  | d :: ds, here, hp => by
    simp only [PlA, Bool.and_eq_true] at hp
    have h1 := h here d hp.1
    unfold walkD loopR
    cases hs : stepE rs here d with
    | none =>
      rw [hs] at h1
      obtain ⟨ρ, h1⟩ := h1
      simp only
      exact ⟨ρ, by rw [h1]⟩
    | some e =>
      rw [hs] at h1
      simp only at h1 ⊢
      rw [h1]
      have ih := walk_loop (n := n) (rs := rs) R h ds e.b hp.2
      cases hw : walkD rs e.b ds with
      | none =>
        rw [hw] at ih
        exact ih
      | some xl =>
        rw [hw] at ih
        exact ih
theorem e_walk_end {n : Nat} {rs : List Rule} (s : Int) (d : D) (h : Pl d = true) : F_walk_end [encN n rs, .int s, d] = some (encO ((walkV rs s d).map (·.1))) := by
  unfold F_walk_end b_walk_end
  cases d with
  | dct k => cases h
  | non => simp [runD, walkV, encO]
  | bl b => simp [runD, walkV, encO]
  | int b => simp [runD, walkV, encO]
  | str b => simp [runD, walkV, encO]
  | lst b => simp [runD, walkV, encO]
  | tup ds =>
    have lp := walk_loop (n := n) (rs := rs) (kill := [4, 5]) (g := gSet 4) (f := (sCons (sSet 5 (eCall 2 F_edge_of (aCons (eName 0) (aCons (eName 4) (aNil))))) (sCons (sIf (tOr' (tBl (e1 gIsN (eName 5))) (tBl (e2 (gEqv true) (e2 gIx (eName 5) (eC (.int 0))) (eName 3)))) (sCons (sRet (eC .non)) (sNil)) (sNil)) (sCons (sSet 3 (e2 gIx (eName 5) (eC (.int 1)))) (sNil)))))
      (fun here => [some (.fz (encN n rs)), some (.fz (.int s)), some (.fz (.tup ds)), some (.fz (.int here)), none, none]) (fun here d hd => by
        have he := e_edge_of (n := n) (rs := rs) d hd
        unfold stepE
        cases hs : edgeAt rs d with
        | none =>
          rw [hs] at he
          simp [he, encA]
        | some e =>
          rw [hs] at he
          by_cases ha : e.a = here
          · simp [he, encA, ha]
          · simp [he, encA, ha]) ds s (plTup h).2
    have fo : ∀ r, loopR (turnR [4, 5] (gSet 4) (sCons (sSet 5 (eCall 2 F_edge_of (aCons (eName 0) (aCons (eName 4) (aNil))))) (sCons (sIf (tOr' (tBl (e1 gIsN (eName 5))) (tBl (e2 (gEqv true) (e2 gIx (eName 5) (eC (.int 0))) (eName 3)))) (sCons (sRet (eC .non)) (sNil)) (sNil)) (sCons (sSet 3 (e2 gIx (eName 5) (eC (.int 1)))) (sNil))))) ds [some (.fz (encN n rs)), some (.fz (.int s)), some (.fz (.tup ds)), some (.fz (.int s)), none, none] = r →
      sFor [4, 5] (iSeq (eName 2)) (gSet 4) (sCons (sSet 5 (eCall 2 F_edge_of (aCons (eName 0) (aCons (eName 4) (aNil))))) (sCons (sIf (tOr' (tBl (e1 gIsN (eName 5))) (tBl (e2 (gEqv true) (e2 gIx (eName 5) (eC (.int 0))) (eName 3)))) (sCons (sRet (eC .non)) (sNil)) (sNil)) (sCons (sSet 3 (e2 gIx (eName 5) (eC (.int 1)))) (sNil)))) [some (.fz (encN n rs)), some (.fz (.int s)), some (.fz (.tup ds)), some (.fz (.int s)), none, none] = r := fun r hr => by
      rw [x_sFor]
      simp
      exact hr
    cases hw : walkD rs s ds with
    | none =>
      rw [hw] at lp
      obtain ⟨ρ, lp⟩ := lp
      simp [runD, fo _ lp, walkV, hw, encO]
    | some xl =>
      rw [hw] at lp
      simp at lp
      simp [runD, fo _ lp, walkV, hw, encO]
theorem walkD_edges {rs : List Rule} : ∀ {ds : List D} {here : Int} {x l : Int}, walkD rs here ds = some (x, l) → ∃ es : List Ed, ds.map (edgeAt rs) = es.map some ∧ l = (es.map (·.w)).sum
  | [], here, x, l, h => by
    cases h
    exact ⟨[], rfl, rfl⟩
  | d :: ds, here, x, l, h => by
    unfold walkD at h
    split at h
    · rename_i e he
      split at h
      · rename_i x' l' hw
        cases h
        obtain ⟨es, h1, h2⟩ := walkD_edges hw
        unfold stepE at he
        split at he
        · rename_i e' hh
          split at he
          · cases he
            exact ⟨e :: es, by simp [hh, h1], by simp [h2]⟩
          · cases he
        · cases he
      · cases h
    · cases h
theorem e_length_of {n : Nat} {rs : List Rule} {s : Int} {ds : List D} {x l : Int} (h : PlA ds = true) (hw : walkD rs s ds = some (x, l)) : F_length_of [encN n rs, .tup ds] = some (.int l) := by
  unfold F_length_of b_length_of
  obtain ⟨es, h1, h2⟩ := walkD_edges hw
  have hp := PlA_iff.mp h
  have c := eComp_map (vs := [2]) (g := gSet 2) (ft := tYes') (fi := iSeq (eName 1)) (fe := e2 gIx (eCall 2 F_edge_of (aCons (eName 0) (aCons (eName 2) (aNil)))) (eC (.int 2))) (ρ := [some (.fz (encN n rs)), some (.fz (.tup ds)), none]) ds id (fun d => match edgeAt rs d with | some e => .int e.w | none => .non) _ (by simp) rfl fun d hd => by
    have he := e_edge_of (n := n) (rs := rs) d (hp d hd)
    have hm : edgeAt rs d ∈ es.map some := h1 ▸ List.mem_map.mpr ⟨d, hd, rfl⟩
    obtain ⟨e, _, hm⟩ := List.mem_map.mp hm
    rw [← hm] at he
    simp [cstep, he, encA, ← hm]
  have c2 : (ds.map fun d => match edgeAt rs d with | some e => D.int e.w | none => .non) = (es.map (·.w)).map D.int := by
    have : (ds.map fun d => match edgeAt rs d with | some e => D.int e.w | none => .non) = (ds.map (edgeAt rs)).map fun o => match o with | some e => D.int e.w | none => .non := by
      rw [List.map_map]
      rfl
    rw [this, h1, List.map_map, List.map_map]
    rfl
  rw [c2] at c
  refine run_sl _ rfl (Ret.rt (Ret.e (eN_v (a1_v c) ?_)))
  rw [x_sumI, h2]
end Kx
set_option Elab.async false
set_option linter.all false
set_option maxRecDepth 100000
set_option maxHeartbeats 4000000
/-! the law's walk -/
namespace Kx
open PySem PySem.Spec PyProof.Rows L2
theorem edR_filter (i : Int) (x : Str) (r : Rule) (k : Nat) : (edR (r, k)).filter (fun e => e.ix == i && e.sd == x) = if (k : Int) = i then (edOf k r x).toList else [] := by
  obtain ⟨s, e, lo, hi⟩ := r
  by_cases hk : (k : Int) = i
  · rw [if_pos hk]
    by_cases h1 : x = "high"
    · subst h1
      have lh : ((("low" : Str) == "high") = false) := by decide
      cases lo <;> cases hi <;> simp [edR, edHi, edLo, edOf, Ed.sd, hk, lh, List.filter]
    · by_cases h2 : x = "low"
      · subst h2
        have lh : ((("high" : Str) == "low") = false) := by decide
        cases lo <;> cases hi <;> simp [edR, edHi, edLo, edOf, Ed.sd, hk, lh, List.filter, Ne.symm high_low]
      · have l1 : ((("high" : Str) == x) = false) := by simpa using fun z => h1 z.symm
        have l2 : ((("low" : Str) == x) = false) := by simpa using fun z => h2 z.symm
        cases lo <;> cases hi <;> simp [edR, edHi, edLo, edOf, Ed.sd, hk, l1, l2, h1, h2, List.filter]
  · rw [if_neg hk]
    have hk' : ((k : Int) == i) = false := by simpa using hk
    cases lo <;> cases hi <;> simp [edR, edHi, edLo, hk', List.filter]
theorem zip_filter (i : Int) (x : Str) : ∀ (rs : List Rule) (k : Nat), ((rs.zipIdx k).flatMap edR).filter (fun e => e.ix == i && e.sd == x) = if (k : Int) ≤ i then (match rs[i.toNat - k]? with | some r => (edOf i.toNat r x).toList | none => []) else []
  | [], k => by simp
  | r :: rs, k => by
    rw [List.zipIdx_cons, List.flatMap_cons, List.filter_append, edR_filter, zip_filter i x rs (k + 1)]
    by_cases h1 : (k : Int) = i
    · rw [if_pos h1, if_neg (show ¬ ((k + 1 : Nat) : Int) ≤ i by omega), if_pos (show (k : Int) ≤ i by omega), List.append_nil]
      have : i.toNat - k = 0 := by omega
      have h2 : i.toNat = k := by omega
      rw [this, h2]
      rfl
    · rw [if_neg h1, List.nil_append]
      by_cases h2 : (k : Int) ≤ i
      · rw [if_pos (show ((k + 1 : Nat) : Int) ≤ i by omega), if_pos h2]
        have : i.toNat - k = (i.toNat - (k + 1)) + 1 := by omega
        rw [this, List.getElem?_cons_succ]
      · rw [if_neg (show ¬ ((k + 1 : Nat) : Int) ≤ i by omega), if_neg h2]
theorem edges_filter (rs : List Rule) (here i : Int) (x : Str) : (edges rs).filter (fun e => (e.ix == i && e.sd == x) && decide (e.a = here)) = (stepE rs here (.tup [.int i, .str x])).toList := by
  have : (edges rs).filter (fun e => (e.ix == i && e.sd == x) && decide (e.a = here)) = ((edges rs).filter (fun e => e.ix == i && e.sd == x)).filter (fun e => decide (e.a = here)) := by
    rw [List.filter_filter]
    refine List.filter_congr fun e _ => ?_
    rw [Bool.and_comm]
  rw [this]
  unfold edges
  rw [zip_filter i x rs 0]
  unfold stepE edgeAt
  simp only [Nat.sub_zero]
  by_cases h0 : 0 ≤ i
  · rw [if_pos (by simpa using h0), if_pos h0]
    cases rs[i.toNat]? with
    | none => rfl
    | some r =>
      simp only
      cases edOf i.toNat r x with
      | none => rfl
      | some e => by_cases ha : e.a = here <;> simp [ha, List.filter]
  · rw [if_neg (by simpa using h0), if_neg h0]
    rfl
theorem walk_loop2 {n : Nat} {rs : List Rule} {kill : List Nat} {g : Fg} {f : Fs} (R : Int → Int → Rho) (h : ∀ here len d, Pl d = true → match stepE rs here d with | some e => turnR kill g f d (R here len) = some (.nx (R e.b (len + e.w))) | none => ∃ ρ, turnR kill g f d (R here len) = some (.rt .non ρ)) :
    ∀ (ds : List D) (here len : Int), PlA ds = true → match walkD rs here ds with | some (x, l) => loopR (turnR kill g f) ds (R here len) = some (.nx (R x (len + l))) | none => ∃ ρ, loopR (turnR kill g f) ds (R here len) = some (.rt .non ρ)
  | [], here, len, _ => by
    show loopR (turnR kill g f) [] (R here len) = some (.nx (R here (len + 0)))
    rw [Int.add_zero]
    rfl
  | d :: ds, here, len, hp => by
    simp only [PlA, Bool.and_eq_true] at hp
    have h1 := h here len d hp.1
    unfold walkD loopR
    cases hs : stepE rs here d with
    | none =>
      rw [hs] at h1
      obtain ⟨ρ, h1⟩ := h1
      simp only
      exact ⟨ρ, by rw [h1]⟩
    | some e =>
      rw [hs] at h1
      simp only at h1 ⊢
      rw [h1]
      have ih := walk_loop2 (n := n) (rs := rs) R h ds e.b (len + e.w) hp.2
      cases hw : walkD rs e.b ds with
      | none =>
        rw [hw] at ih
        exact ih
      | some xl =>
        rw [hw] at ih
        simp only at ih ⊢
        rw [← Int.add_assoc]
        exact ih
def encX : Option (Int × Int) → D
  | none => .non
  | some (x, l) => .tup [.int x, .int l]
theorem e_law_walk {n : Nat} {rs : List Rule} (hr : rs.length ≤ 12) (s : Int) (d : D) (h : Pl d = true) : F_law_walk [encN n rs, .int s, d] = some (encX (walkV rs s d)) := by
  unfold F_law_walk b_law_walk
  cases d with
  | dct k => cases h
  | non => simp [runD, walkV, encX]
  | bl b => simp [runD, walkV, encX]
  | int b => simp [runD, walkV, encX]
  | str b => simp [runD, walkV, encX]
  | lst b => simp [runD, walkV, encX]
  | tup ds =>
    refine run_sl _ rfl (Ret.nx (ρ1 := [some (.fz (encN n rs)), some (.fz (.int s)), some (.fz (.tup ds)), none, none, none, none, none]) (by simp) (Ret.nx (ρ1 := [some (.fz (encN n rs)), some (.fz (.int s)), some (.fz (.tup ds)), some (.fz (.int s)), none, none, none, none]) (by simp) (Ret.nx (ρ1 := [some (.fz (encN n rs)), some (.fz (.int s)), some (.fz (.tup ds)), some (.fz (.int s)), some (.fz (.int 0)), none, none, none]) (by simp) ?_)))
    have lp := walk_loop2 (n := n) (rs := rs) (kill := [5, 6, 7]) (g := gSet 5) (f := (sCons (sIf (tOr' (tNot' (tE (e1 (gIsi isTupD) (eName 5)))) (tOr' (tBl (e2 (gEqv true) (eN gLen (aCons (eName 5) (aNil))) (eC (.int 2)))) (tOr' (tNot' (tE (eCall 1 F_law_is_integer (aCons (e2 gIx (eName 5) (eC (.int 0))) (aNil))))) (tNot' (tE (e1 (gIsi isStrD) (e2 gIx (eName 5) (eC (.int 1))))))))) (sCons (sRet (eC .non)) (sNil)) (sNil)) (sCons (sSet 6 (eComp [7] (iSeq (eCall 1 F_law_edges (aCons (eName 0) (aNil)))) (gSet 7) (tAnd' (tBl (e2 (gEqv false) (e2 gIx (eName 7) (eC (.int 0))) (eName 5))) (tBl (e2 (gEqv false) (e2 gIx (eName 7) (eC (.int 1))) (eName 3)))) (eName 7))) (sCons (sIf (tNot' (tE (eName 6))) (sCons (sRet (eC .non)) (sNil)) (sNil)) (sCons (sSet 3 (e2 gIx (e2 gIx (eName 6) (eC (.int 0))) (eC (.int 2)))) (sCons (sSet 4 (e2 gAdd (eName 4) (e2 gIx (e2 gIx (eName 6) (eC (.int 0))) (eC (.int 3))))) (sNil)))))))
      (fun here len => [some (.fz (encN n rs)), some (.fz (.int s)), some (.fz (.tup ds)), some (.fz (.int here)), some (.fz (.int len)), none, none, none]) (fun here len d hd => by
        cases d with
        | dct k => cases hd
        | non => simp [stepE, edgeAt]
        | bl b => simp [stepE, edgeAt]
        | int b => simp [stepE, edgeAt]
        | str b => simp [stepE, edgeAt]
        | lst b => simp [stepE, edgeAt]
        | tup es =>
          rcases two_cases es with ⟨a, b, rfl⟩ | hl
          · obtain ⟨pa, pb⟩ := plTwo hd
            cases a with
            | dct k => cases pa
            | non => simp [stepE, edgeAt, e_law_is_integer .non rfl, numO]
            | bl k => simp [stepE, edgeAt, e_law_is_integer (.bl k) rfl, numO]
            | str k => simp [stepE, edgeAt, e_law_is_integer (.str k) rfl, numO]
            | tup k => simp [stepE, edgeAt, e_law_is_integer (.tup k) rfl, numO]
            | lst k => simp [stepE, edgeAt, e_law_is_integer (.lst k) rfl, numO]
            | int i =>
              have li := e_law_is_integer (.int i) rfl
              simp [numO] at li
              cases b with
              | dct k => cases pb
              | non => simp [stepE, edgeAt, li]
              | bl k => simp [stepE, edgeAt, li]
              | int k => simp [stepE, edgeAt, li]
              | tup k => simp [stepE, edgeAt, li]
              | lst k => simp [stepE, edgeAt, li]
              | str x =>
                have px : PyData.strOk x = true := pb
                have c := eComp_fm (vs := [7]) (g := gSet 7) (fi := iSeq (eCall 1 F_law_edges (aCons (eName 0) (aNil)))) (ft := (tAnd' (tBl (e2 (gEqv false) (e2 gIx (eName 7) (eC (.int 0))) (eName 5))) (tBl (e2 (gEqv false) (e2 gIx (eName 7) (eC (.int 1))) (eName 3))))) (fe := eName 7)
                  (ρ := [some (.fz (encN n rs)), some (.fz (.int s)), some (.fz (.tup ds)), some (.fz (.int here)), some (.fz (.int len)), some (.fz (.tup [.int i, .str x])), none, none]) (edges rs) encE (fun e => if ((e.ix == i && e.sd == x) && decide (e.a = here)) = true then some (encE e) else none) _ (by simp [e_law_edges hr]) rfl (fun e he => by
                    have q := eqKK e.ix i e.sd x e.sdOk px
                    by_cases h1 : (e.ix == i && e.sd == x) = true
                    · rw [h1] at q
                      by_cases h2 : e.a = here
                      · simp [cstep, encE, encK, q, h1, h2]
                      · simp [cstep, encE, encK, q, h1, h2]
                    · have h1' : (e.ix == i && e.sd == x) = false := by simpa using h1
                      rw [h1'] at q
                      simp [cstep, encE, encK, q, h1'])
                rw [fm_filter (fun e : Ed => (e.ix == i && e.sd == x) && decide (e.a = here)) encE, edges_filter] at c
                simp at c
                cases hs : stepE rs here (.tup [.int i, .str x]) with
                | none =>
                  rw [hs] at c
                  simp at c
                  simp [li, c]
                | some e =>
                  rw [hs] at c
                  simp at c
                  simp [li, c]
                  simp [encE]
          · have : stepE rs here (.tup es) = none := by
              unfold stepE
              rw [edgeAt_len hl]
            rw [this]
            simp [hl]) ds s 0 (plTup h).2
    have fo : ∀ r, loopR (turnR [5, 6, 7] (gSet 5) (sCons (sIf (tOr' (tNot' (tE (e1 (gIsi isTupD) (eName 5)))) (tOr' (tBl (e2 (gEqv true) (eN gLen (aCons (eName 5) (aNil))) (eC (.int 2)))) (tOr' (tNot' (tE (eCall 1 F_law_is_integer (aCons (e2 gIx (eName 5) (eC (.int 0))) (aNil))))) (tNot' (tE (e1 (gIsi isStrD) (e2 gIx (eName 5) (eC (.int 1))))))))) (sCons (sRet (eC .non)) (sNil)) (sNil)) (sCons (sSet 6 (eComp [7] (iSeq (eCall 1 F_law_edges (aCons (eName 0) (aNil)))) (gSet 7) (tAnd' (tBl (e2 (gEqv false) (e2 gIx (eName 7) (eC (.int 0))) (eName 5))) (tBl (e2 (gEqv false) (e2 gIx (eName 7) (eC (.int 1))) (eName 3)))) (eName 7))) (sCons (sIf (tNot' (tE (eName 6))) (sCons (sRet (eC .non)) (sNil)) (sNil)) (sCons (sSet 3 (e2 gIx (e2 gIx (eName 6) (eC (.int 0))) (eC (.int 2)))) (sCons (sSet 4 (e2 gAdd (eName 4) (e2 gIx (e2 gIx (eName 6) (eC (.int 0))) (eC (.int 3))))) (sNil))))))) ds [some (.fz (encN n rs)), some (.fz (.int s)), some (.fz (.tup ds)), some (.fz (.int s)), some (.fz (.int 0)), none, none, none] = r →
      sFor [5, 6, 7] (iSeq (eName 2)) (gSet 5) (sCons (sIf (tOr' (tNot' (tE (e1 (gIsi isTupD) (eName 5)))) (tOr' (tBl (e2 (gEqv true) (eN gLen (aCons (eName 5) (aNil))) (eC (.int 2)))) (tOr' (tNot' (tE (eCall 1 F_law_is_integer (aCons (e2 gIx (eName 5) (eC (.int 0))) (aNil))))) (tNot' (tE (e1 (gIsi isStrD) (e2 gIx (eName 5) (eC (.int 1))))))))) (sCons (sRet (eC .non)) (sNil)) (sNil)) (sCons (sSet 6 (eComp [7] (iSeq (eCall 1 F_law_edges (aCons (eName 0) (aNil)))) (gSet 7) (tAnd' (tBl (e2 (gEqv false) (e2 gIx (eName 7) (eC (.int 0))) (eName 5))) (tBl (e2 (gEqv false) (e2 gIx (eName 7) (eC (.int 1))) (eName 3)))) (eName 7))) (sCons (sIf (tNot' (tE (eName 6))) (sCons (sRet (eC .non)) (sNil)) (sNil)) (sCons (sSet 3 (e2 gIx (e2 gIx (eName 6) (eC (.int 0))) (eC (.int 2)))) (sCons (sSet 4 (e2 gAdd (eName 4) (e2 gIx (e2 gIx (eName 6) (eC (.int 0))) (eC (.int 3))))) (sNil)))))) [some (.fz (encN n rs)), some (.fz (.int s)), some (.fz (.tup ds)), some (.fz (.int s)), some (.fz (.int 0)), none, none, none] = r := fun r hr => by
      rw [x_sFor]
      simp
      exact hr
    cases hw : walkD rs s ds with
    | none =>
      rw [hw] at lp
      obtain ⟨ρ, lp⟩ := lp
      refine Ret.rt ⟨ρ, ?_⟩
      rw [fo _ lp]
      simp [walkV, hw, encX]
    | some xl =>
      rw [hw] at lp
      simp at lp
      refine Ret.nx (fo _ lp) (Ret.rt (Ret.v ?_))
      obtain ⟨x, l⟩ := xl
      simp [walkV, hw, encX]
end Kx
set_option Elab.async false
set_option linter.all false
set_option maxRecDepth 100000
set_option maxHeartbeats 4000000
/-! heights, sets, bounds judged -/
namespace Kx
open PySem PySem.Spec PyProof.Rows L2
def hAt (hs : List Int) (i : Int) : Int := hs.getD i.toNat 0
theorem dInts_eq : ∀ {ds : List D} {hs : List Int}, dInts ds = some hs → ds = hs.map D.int
  | [], hs, h => by
    cases h
    rfl
  | d :: ds, hs, h => by
    cases d <;> simp only [dInts] at h <;> try (cases h)
    split at h
    · rename_i ns e
      cases h
      rw [List.map_cons, ← dInts_eq e]
    · cases h
theorem dInts_all : ∀ (ds : List D), (dInts ds).isSome = ds.all fun d => (numO d).isSome
  | [] => rfl
  | d :: ds => by
    have ih := dInts_all ds
    cases d with
    | int i =>
      show (match dInts ds with | some ns => some (i :: ns) | none => none).isSome = (true && ds.all fun d => (numO d).isSome)
      rw [Bool.true_and, ← ih]
      cases dInts ds <;> rfl
    | _ => rfl
def htsD (n : Nat) : D → Option (List Int)
  | .tup ds => match dInts ds with
    | some hs => if hs.length = n then some hs else none
    | none => none
  | _ => none
theorem htsD_none {n : Nat} {ds : List D} (h : dInts ds = none) : htsD n (.tup ds) = none := by
  show (match dInts ds with | some hs => _ | none => none) = _
  rw [h]
theorem htsD_val {n : Nat} {ds : List D} {hs : List Int} (h : dInts ds = some hs) : htsD n (.tup ds) = if hs.length = n then some hs else none := by
  show (match dInts ds with | some hs => _ | none => none) = _
  rw [h]
theorem htsD_some {n : Nat} {d : D} {hs : List Int} (h : htsD n d = some hs) : d = encI hs ∧ hs.length = n := by
  cases d <;> simp only [htsD] at h <;> try (cases h)
  split at h
  · rename_i ns e
    split at h
    · rename_i hl
      cases h
      exact ⟨by rw [dInts_eq e]; rfl, hl⟩
    · cases h
  · cases h
theorem hAt_ix {n : Nat} {hs : List Int} (hl : hs.length = n) {i : Int} (hi : Rg n i) : atI (hs.map D.int) i = some (.int (hAt hs i)) := by
  have hlt : i.toNat < hs.length := by
    have := hi.1
    have := hi.2
    omega
  rw [atI_of _ hi.1, List.getElem?_map, List.getElem?_eq_getElem hlt]
  simp [hAt, List.getD, List.getElem?_eq_getElem hlt]
theorem int_all {vs : List Nat} {g : Fg} {fe : Fe} {fi : Fi} {ρ R : Rho} {ds : List D} (hp : PlA ds = true) (hi : fi ρ = some (ds, ρ)) (h0 : wipeR ρ vs = R) (hc : ∀ d, Pl d = true → cstep vs g tYes' fe d R = some (some (.bl (numO d).isSome), R)) :
    eN gAll (aCons (eComp vs fi g tYes' fe) aNil) ρ = some (.bl (dInts ds).isSome, R) := by
  have c := eComp_map (fi := fi) ds id (fun d => .bl (numO d).isSome) R (by rw [List.map_id]; exact hi) h0 (fun d hd => hc d (PlA_iff.mp hp d hd))
  refine eN_v (a1_v c) ?_
  rw [show (ds.map fun d => D.bl (numO d).isSome) = (ds.map fun d => (numO d).isSome).map D.bl by rw [List.map_map]; rfl, x_allB, dInts_all]
  simp [List.all_map]
theorem e_are_heights {n : Nat} {rs : List Rule} (d : D) (h : Pl d = true) : F_are_heights [encN n rs, d] = some (.bl (htsD n d).isSome) := by
  unfold F_are_heights b_are_heights
  cases d with
  | dct k => cases h
  | non => simp [runD, htsD]
  | bl b => simp [runD, htsD]
  | int b => simp [runD, htsD]
  | str b => simp [runD, htsD]
  | lst b => simp [runD, htsD]
  | tup ds =>
    refine run_sl _ rfl (Ret.rt (Ret.e (ρ1 := [some (.fz (encN n rs)), some (.fz (.tup ds)), none]) (eAnd_t (ρ1 := [some (.fz (encN n rs)), some (.fz (.tup ds)), none]) (by simp) ?_)))
    by_cases hl : ds.length = n
    · refine eAnd_t (ρ1 := [some (.fz (encN n rs)), some (.fz (.tup ds)), none]) (by simp [hl]) ?_
      rw [int_all (R := [some (.fz (encN n rs)), some (.fz (.tup ds)), none]) (plTup h).2 (by simp) (by simp) fun d hd => by simp [cstep, e_is_integer d (plNo hd)]]
      cases hd : dInts ds with
      | none => rw [htsD_none hd]
      | some hs =>
        have : hs.length = n := by
          rw [← hl, dInts_eq hd, List.length_map]
        rw [htsD_val hd, if_pos this]
    · have hl' : ¬ ((ds.length : Int) = n) := by omega
      rw [eAnd_f (ρ1 := [some (.fz (encN n rs)), some (.fz (.tup ds)), none]) (by simp [hl'])]
      cases hd : dInts ds with
      | none => rw [htsD_none hd]; rfl
      | some hs =>
        have : ¬ hs.length = n := by
          intro z
          apply hl
          rw [← z, dInts_eq hd, List.length_map]
        rw [htsD_val hd, if_neg this]
        rfl
/-! ### heights that hold -/
def exc (r : Rule) (hs : List Int) : Int := match r.lo with
  | some l => if hAt hs r.e - hAt hs r.s < l then hAt hs r.e - hAt hs r.s - l else match r.hi with
    | some h => if h < hAt hs r.e - hAt hs r.s then hAt hs r.e - hAt hs r.s - h else 0
    | none => 0
  | none => match r.hi with
    | some h => if h < hAt hs r.e - hAt hs r.s then hAt hs r.e - hAt hs r.s - h else 0
    | none => 0
def keeps (rs : List Rule) (hs : List Int) : Bool := (edges rs).all fun e => decide (hAt hs e.b - hAt hs e.a ≤ e.w)
theorem e_excess {n : Nat} {r : Rule} (h : OkR n r) {hs : List Int} (hl : hs.length = n) : F_excess_of [encR r, .tup (hs.map D.int)] = some (.int (exc r hs)) := by
  unfold F_excess_of b_excess_of
  have h1 := hAt_ix hl h.s
  have h2 := hAt_ix hl h.e
  obtain ⟨s, e, lo, hi⟩ := r
  simp at h1 h2
  refine run_sl _ rfl ?_
  unfold exc Ret
  cases lo with
  | none =>
    cases hi with
    | none => simp [encR, encO, h1, h2]
    | some x => by_cases c : x < hAt hs e - hAt hs s <;> simp [encR, encO, h1, h2, c]
  | some y =>
    by_cases c0 : hAt hs e - hAt hs s < y
    · cases hi <;> simp [encR, encO, h1, h2, c0]
    · cases hi with
      | none => simp [encR, encO, h1, h2, c0]
      | some x => by_cases c : x < hAt hs e - hAt hs s <;> simp [encR, encO, h1, h2, c, c0]
theorem exc_edR (r : Rule) (k : Nat) (hs : List Int) : (edR (r, k)).all (fun e => decide (hAt hs e.b - hAt hs e.a ≤ e.w)) = decide (exc r hs = 0) := by
  obtain ⟨s, e, lo, hi⟩ := r
  rw [Bool.eq_iff_iff]
  cases lo <;> cases hi <;> simp [edR, edHi, edLo, exc]
  · first | omega | (split <;> omega)
  · first | omega | (split <;> omega)
  · first | omega | (split <;> first | omega | (split <;> omega))
theorem keeps_exc (hs : List Int) : ∀ (rs : List Rule) (k : Nat), ((rs.zipIdx k).flatMap edR).all (fun e => decide (hAt hs e.b - hAt hs e.a ≤ e.w)) = rs.all fun r => decide (exc r hs = 0)
  | [], k => rfl
  | r :: rs, k => by
    rw [List.zipIdx_cons, List.flatMap_cons, List.all_append, exc_edR, keeps_exc hs rs (k + 1), List.all_cons]
theorem e_all_hold {n : Nat} {rs : List Rule} (h : OkN n rs) {hs : List Int} (hl : hs.length = n) : F_all_hold [encN n rs, .tup (hs.map D.int)] = some (.bl (keeps rs hs)) := by
  unfold F_all_hold b_all_hold
  refine run_sl _ rfl (Ret.rt (Ret.e (eN_v (a1_v (eComp_map rs encR (fun r => .bl (decide (exc r hs = 0))) _ (by simp) rfl fun r hr => ?_)) ?_)))
  · simp [cstep, e_excess (h.rl r hr) hl]
  · rw [show (rs.map fun r => D.bl (decide (exc r hs = 0))) = (rs.map fun r => decide (exc r hs = 0)).map D.bl by rw [List.map_map]; rfl, x_allB]
    unfold keeps edges
    rw [keeps_exc hs rs 0]
    simp [List.all_map]
theorem e_law_keeps {n : Nat} {rs : List Rule} (h : OkN n rs) {hs : List Int} (hl : hs.length = n) : F_law_keeps [encN n rs, .tup (hs.map D.int)] = some (.bl (keeps rs hs)) := by
  unfold F_law_keeps b_law_keeps
  have rl := h.len
  refine run_sl _ rfl (Ret.rt (Ret.e (eN_v (a1_v (eComp_map (edges rs) encE (fun e => .bl (decide (hAt hs e.b - hAt hs e.a ≤ e.w))) _ (by simp [e_law_edges (show rs.length ≤ 12 by omega)]) rfl fun e he => ?_)) ?_)))
  · obtain ⟨ra, rb⟩ := edges_rg h e he
    simp [cstep, encE, hAt_ix hl ra, hAt_ix hl rb]
  · rw [show ((edges rs).map fun e => D.bl (decide (hAt hs e.b - hAt hs e.a ≤ e.w))) = ((edges rs).map fun e => decide (hAt hs e.b - hAt hs e.a ≤ e.w)).map D.bl by rw [List.map_map]; rfl, x_allB]
    unfold keeps
    simp [List.all_map]
def rightB (n : Nat) (rs : List Rule) (d : D) : Bool := match htsD n d with
  | some hs => keeps rs hs
  | none => false
theorem e_are_right {n : Nat} {rs : List Rule} (h : OkN n rs) (d : D) (hd : Pl d = true) : F_are_right [encN n rs, d] = some (.bl (rightB n rs d)) := by
  unfold F_are_right b_are_right rightB
  have e1 := e_are_heights (n := n) (rs := rs) d hd
  cases hh : htsD n d with
  | none =>
    rw [hh] at e1
    simp [runD, e1]
  | some hs =>
    rw [hh] at e1
    obtain ⟨rfl, hl⟩ := htsD_some hh
    have e2 := e_all_hold h hl
    simp [runD, e1]
    simp [encI, e2]
theorem e_law_are_right {n : Nat} {rs : List Rule} (h : OkN n rs) (d : D) (hd : Pl d = true) : F_law_are_right [encN n rs, d] = some (.bl (rightB n rs d)) := by
  unfold F_law_are_right b_law_are_right
  cases d with
  | dct k => cases hd
  | non => simp [runD, rightB, htsD]
  | bl b => simp [runD, rightB, htsD]
  | int b => simp [runD, rightB, htsD]
  | str b => simp [runD, rightB, htsD]
  | lst b => simp [runD, rightB, htsD]
  | tup ds =>
    by_cases hl : ds.length = n
    · have c := int_all (vs := [2]) (g := gSet 2) (fi := iSeq (eName 1)) (fe := eCall 1 F_law_is_integer (aCons (eName 2) (aNil))) (ρ := [some (.fz (encN n rs)), some (.fz (.tup ds)), none]) (R := [some (.fz (encN n rs)), some (.fz (.tup ds)), none]) (plTup hd).2 (by simp) (by simp) fun d hd => by simp [cstep, e_law_is_integer d (plNo hd)]
      cases hi : dInts ds with
      | none =>
        rw [hi] at c
        simp at c
        refine run_sl _ rfl (Ret.rt ?_)
        simp [Ret, hl, c, rightB, htsD_none hi]
      | some hs =>
        rw [hi] at c
        simp at c
        have hl2 : hs.length = n := by rw [← hl, dInts_eq hi, List.length_map]
        have e2 := e_law_keeps h hl2
        rw [← dInts_eq hi] at e2
        refine run_sl _ rfl (Ret.nx (ρ1 := [some (.fz (encN n rs)), some (.fz (.tup ds)), none]) (by simp [hl, c]) ?_)
        simp [Ret, rightB, htsD_val hi, hl2, e2]
    · have hl' : ¬ ((ds.length : Int) = n) := by omega
      have : rightB n rs (.tup ds) = false := by
        unfold rightB
        cases hi : dInts ds with
        | none => rw [htsD_none hi]
        | some hs =>
          have : ¬ hs.length = n := by
            intro z
            apply hl
            rw [← z, dInts_eq hi, List.length_map]
          rw [htsD_val hi, if_neg this]
      simp [runD, hl', this]
end Kx
set_option Elab.async false
set_option linter.all false
set_option maxRecDepth 100000
set_option maxHeartbeats 4000000
/-! sets and bounds judged -/
namespace Kx
open PySem PySem.Spec PyProof.Rows L2
def incr (xs : List Int) : Bool := (ev (xs.length - 1)).all fun k => decide (hAt xs k < hAt xs (k + 1))
def evB (n : Nat) (v : Int) : Bool := decide (0 ≤ v) && decide (v < n)
def evD (n : Nat) : D → Bool
  | .int v => evB n v
  | _ => false
def setD (n : Nat) : D → Option (List Int)
  | .tup ds => if ds.all (evD n) = true then match dInts ds with
      | some xs => if incr xs = true then some xs else none
      | none => none
    else none
  | _ => none
theorem evD_ints {n : Nat} : ∀ {ds : List D}, ds.all (evD n) = true → ∃ xs, dInts ds = some xs
  | [], _ => ⟨[], rfl⟩
  | d :: ds, h => by
    simp only [List.all_cons, Bool.and_eq_true] at h
    obtain ⟨xs, hx⟩ := evD_ints h.2
    cases d with
    | int i => exact ⟨i :: xs, by simp only [dInts, hx]⟩
    | _ => cases h.1
theorem setD_some {n : Nat} {d : D} {xs : List Int} (h : setD n d = some xs) : d = encI xs ∧ (∀ x ∈ xs, Rg n x) ∧ incr xs = true := by
  cases d with
  | tup ds =>
    simp only [setD] at h
    split at h
    · rename_i ha
      split at h
      · rename_i ys e
        split at h
        · rename_i hi
          cases h
          refine ⟨by rw [dInts_eq e]; rfl, fun x hx => ?_, hi⟩
          rw [dInts_eq e, List.all_eq_true] at ha
          have := ha (.int x) (List.mem_map.mpr ⟨x, hx, rfl⟩)
          simpa [evD, evB, Rg] using this
        · cases h
      · cases h
    · cases h
  | _ => cases h
theorem setD_mk {n : Nat} {xs : List Int} (h : ∀ x ∈ xs, Rg n x) (hi : incr xs = true) : setD n (encI xs) = some xs := by
  unfold setD encI
  simp only
  rw [if_pos, dInts_map]
  · simp only [hi, if_true]
  · rw [List.all_map, List.all_eq_true]
    intro x hx
    have := h x hx
    unfold Rg at this
    simp [evD, evB, this.1, this.2]
theorem ev_all {n : Nat} {vs : List Nat} {g : Fg} {fe : Fe} {fi : Fi} {ρ R : Rho} {ds : List D} (hp : PlA ds = true) (hi : fi ρ = some (ds, ρ)) (h0 : wipeR ρ vs = R) (hc : ∀ d, Pl d = true → cstep vs g tYes' fe d R = some (some (.bl (evD n d)), R)) :
    eN gAll (aCons (eComp vs fi g tYes' fe) aNil) ρ = some (.bl (ds.all (evD n)), R) := by
  have c := eComp_map (fi := fi) ds id (fun d => .bl (evD n d)) R (by rw [List.map_id]; exact hi) h0 (fun d hd => hc d (PlA_iff.mp hp d hd))
  refine eN_v (a1_v c) ?_
  rw [show (ds.map fun d => D.bl (evD n d)) = (ds.map fun d => evD n d).map D.bl by rw [List.map_map]; rfl, x_allB]
  simp [List.all_map]
theorem hAt_ix2 {xs : List Int} {k : Int} (h0 : 0 ≤ k) (h1 : k < xs.length) : atI (xs.map D.int) k = some (.int (hAt xs k)) := hAt_ix (n := xs.length) rfl ⟨h0, h1⟩
theorem iRange_m {fa : Fe} {ρ : Rho} {j : Int} {m : Nat} (h : fa ρ = some (.int j, ρ)) (hn : j ≤ 1000) (hm : -1000 ≤ j) (e : j.toNat = m) : iRange fa ρ = some ((ev m).map D.int, ρ) := by
  rw [x_iRange, h]
  show (if j ≤ 1000 ∧ -1000 ≤ j then some (rangeD 0 j.toNat, ρ) else none) = _
  rw [if_pos ⟨hn, hm⟩, e, rangeD_ev]
theorem incr_all {vs : List Nat} {g : Fg} {fe : Fe} {fi : Fi} {ρ R : Rho} {xs : List Int} (hi : fi ρ = some ((ev (xs.length - 1)).map D.int, ρ)) (h0 : wipeR ρ vs = R) (hc : ∀ k : Int, 0 ≤ k → k + 1 < xs.length → cstep vs g tYes' fe (.int k) R = some (some (.bl (decide (hAt xs k < hAt xs (k + 1)))), R)) :
    eN gAll (aCons (eComp vs fi g tYes' fe) aNil) ρ = some (.bl (incr xs), R) := by
  have c := eComp_map (fi := fi) (ev (xs.length - 1)) D.int (fun k => .bl (decide (hAt xs k < hAt xs (k + 1)))) R hi h0 (fun k hk => by
    have := mem_ev.mp hk
    unfold Rg at this
    exact hc k this.1 (by omega))
  refine eN_v (a1_v c) ?_
  rw [show ((ev (xs.length - 1)).map fun k => D.bl (decide (hAt xs k < hAt xs (k + 1)))) = ((ev (xs.length - 1)).map fun k => decide (hAt xs k < hAt xs (k + 1))).map D.bl by rw [List.map_map]; rfl, x_allB]
  simp [List.all_map, incr]
theorem e_is_event_b' {n : Nat} {rs : List Rule} (d : D) (h : noDct d = true) : F_is_event_b [encN n rs, d] = some (.bl (evD n d)) := by
  rw [e_is_event_b d h]
  cases d <;> rfl
theorem e_is_set {n : Nat} {rs : List Rule} (d : D) (h : Pl d = true) : F_is_set [encN n rs, d] = some (.bl (setD n d).isSome) := by
  unfold F_is_set b_is_set
  cases d with
  | dct k => cases h
  | non => simp [runD, setD]
  | bl b => simp [runD, setD]
  | int b => simp [runD, setD]
  | str b => simp [runD, setD]
  | lst b => simp [runD, setD]
  | tup ds =>
    have hlen := (plTup h).1
    have c := ev_all (n := n) (vs := [2]) (g := gSet 2) (fi := iSeq (eName 1)) (fe := eCall 2 F_is_event_b (aCons (eName 0) (aCons (eName 2) (aNil)))) (ρ := [some (.fz (encN n rs)), some (.fz (.tup ds)), none, none]) (R := [some (.fz (encN n rs)), some (.fz (.tup ds)), none, none]) (plTup h).2 (by simp) (by simp) fun d hd => by simp [cstep, e_is_event_b' d (plNo hd)]
    simp at c
    by_cases ha : ds.all (evD n) = true
    · rw [ha] at c
      obtain ⟨xs, hx⟩ := evD_ints ha
      have hds := dInts_eq hx
      have hl : xs.length = ds.length := by rw [hds, List.length_map]
      have c2 := incr_all (vs := [3]) (g := gSet 3) (xs := xs) (fi := iRange (e2 (gI fun i j => i - j) (eN gLen (aCons (eName 1) (aNil))) (eC (.int 1)))) (fe := e2 (gB fun i j => decide (i < j)) (e2 gIx (eName 1) (eName 3)) (e2 gIx (eName 1) (e2 gAdd (eName 3) (eC (.int 1))))) (ρ := [some (.fz (encN n rs)), some (.fz (.tup ds)), none, none]) (R := [some (.fz (encN n rs)), some (.fz (.tup ds)), none, none])
        (iRange_m (j := (ds.length : Int) - 1) (by simp) (by omega) (by omega) (by omega)) (by simp) fun k h0 h1 => by
          have a1 := hAt_ix2 (xs := xs) (k := k) h0 (by omega)
          have a2 := hAt_ix2 (xs := xs) (k := k + 1) (by omega) h1
          rw [← hds] at a1 a2
          simp [cstep, a1, a2]
      simp at c2
      have hs : setD n (.tup ds) = if incr xs = true then some xs else none := by
        unfold setD
        simp only [ha, if_true, hx]
      refine run_sl _ rfl (Ret.nx (ρ1 := [some (.fz (encN n rs)), some (.fz (.tup ds)), none, none]) (by simp [c]) (Ret.rt (Ret.v ?_)))
      simp [c2, hs]
      cases incr xs <;> rfl
    · have ha' : ds.all (evD n) = false := by simpa using ha
      rw [ha'] at c
      have hs : setD n (.tup ds) = none := by
        unfold setD
        simp only [ha', Bool.false_eq_true, if_false]
      simp [runD, c, hs]
theorem e_law_is_set {n : Nat} {rs : List Rule} (d : D) (h : Pl d = true) : F_law_is_set [encN n rs, d] = some (.bl (setD n d).isSome) := by
  unfold F_law_is_set b_law_is_set
  cases d with
  | dct k => cases h
  | non => simp [runD, setD]
  | bl b => simp [runD, setD]
  | int b => simp [runD, setD]
  | str b => simp [runD, setD]
  | lst b => simp [runD, setD]
  | tup ds =>
    have hlen := (plTup h).1
    have c := ev_all (n := n) (vs := [2]) (g := gSet 2) (fi := iSeq (eName 1)) (fe := (eAnd (eCall 1 F_law_is_integer (aCons (eName 2) (aNil))) (eChain (gB fun i j => decide (i ≤ j)) (gB fun i j => decide (i < j)) (eC (.int 0)) (eName 2) (e2 gIx (eName 0) (eC (.int 0)))))) (ρ := [some (.fz (encN n rs)), some (.fz (.tup ds)), none, none]) (R := [some (.fz (encN n rs)), some (.fz (.tup ds)), none, none]) (plTup h).2 (by simp) (by simp) fun d hd => by
      cases d with
      | int v => by_cases h1 : 0 ≤ v <;> by_cases h2 : v < n <;> simp [cstep, h1, h2, e_law_is_integer (.int v) rfl, numO, evD, evB]
      | dct kvs => cases hd
      | non => simp [cstep, e_law_is_integer .non rfl, numO, evD]
      | bl b => simp [cstep, e_law_is_integer (.bl b) rfl, numO, evD]
      | str b => simp [cstep, e_law_is_integer (.str b) rfl, numO, evD]
      | tup b => simp [cstep, e_law_is_integer (.tup b) rfl, numO, evD]
      | lst b => simp [cstep, e_law_is_integer (.lst b) rfl, numO, evD]
    simp at c
    by_cases ha : ds.all (evD n) = true
    · rw [ha] at c
      obtain ⟨xs, hx⟩ := evD_ints ha
      have hds := dInts_eq hx
      have hl : xs.length = ds.length := by rw [hds, List.length_map]
      have c2 := incr_all (vs := [3]) (g := gSet 3) (xs := xs) (fi := iRange (e2 (gI fun i j => i - j) (eN gLen (aCons (eName 1) (aNil))) (eC (.int 1)))) (fe := e2 (gB fun i j => decide (i < j)) (e2 gIx (eName 1) (eName 3)) (e2 gIx (eName 1) (e2 gAdd (eName 3) (eC (.int 1))))) (ρ := [some (.fz (encN n rs)), some (.fz (.tup ds)), none, none]) (R := [some (.fz (encN n rs)), some (.fz (.tup ds)), none, none])
        (iRange_m (j := (ds.length : Int) - 1) (by simp) (by omega) (by omega) (by omega)) (by simp) fun k h0 h1 => by
          have a1 := hAt_ix2 (xs := xs) (k := k) h0 (by omega)
          have a2 := hAt_ix2 (xs := xs) (k := k + 1) (by omega) h1
          rw [← hds] at a1 a2
          simp [cstep, a1, a2]
      simp at c2
      have hs : setD n (.tup ds) = if incr xs = true then some xs else none := by
        unfold setD
        simp only [ha, if_true, hx]
      refine run_sl _ rfl (Ret.nx (ρ1 := [some (.fz (encN n rs)), some (.fz (.tup ds)), none, none]) (by simp [c]) (Ret.rt (Ret.v ?_)))
      simp [c2, hs]
      cases incr xs <;> rfl
    · have ha' : ds.all (evD n) = false := by simpa using ha
      rw [ha'] at c
      have hs : setD n (.tup ds) = none := by
        unfold setD
        simp only [ha', Bool.false_eq_true, if_false]
      simp [runD, c, hs]
/-! ### one bound -/
def cutB (rs : List Rule) (xs : List Int) : Bool := !(edges rs).any fun e => !xs.contains e.a && xs.contains e.b
def boundB (n : Nat) (rs : List Rule) (s e : Int) (num : D) : D → Bool
  | .tup [x, y] => match num with
    | .non => rightB n rs x && (match setD n y with
      | some xs => xs.contains e && (!xs.contains s && cutB rs xs)
      | none => false)
    | .int d => match htsD n y with
      | some hs => keeps rs hs && (decide (hAt hs e - hAt hs s = d) && decide (walkV rs s x = some (e, d)))
      | none => false
    | _ => false
  | _ => false
theorem boundB_len {n : Nat} {rs : List Rule} {s e : Int} {num : D} {ds : List D} (h : ¬ ((ds.length : Int) = 2)) : boundB n rs s e num (.tup ds) = false := by
  unfold boundB
  split
  · rename_i heq
    cases heq
    simp at h
  · rfl
theorem any_true {α : Type} (l : List α) (t : α → Bool) : gAny [.lst (l.map fun a => D.bl (t a))] = some (.bl (l.any t)) := by
  rw [show (l.map fun a => D.bl (t a)) = (l.map t).map D.bl by rw [List.map_map]; rfl, x_anyB]
  simp [List.any_map]
@[simp] theorem eqNI (i : Int) : gEqv false .non (.int i) = some (.bl false) := rfl
@[simp] theorem eqNT (i j : Int) : gEqv false .non (.tup [.int i, .int j]) = some (.bl false) := rfl
@[simp] theorem eqTT (i j k l : Int) : gEqv false (.tup [.int i, .int j]) (.tup [.int k, .int l]) = some (.bl (decide (i = k) && decide (j = l))) := by
  simp [gEqv, py1, py0s, py0, SeqAt.shaped, PyData.canLay0, PyData.canLayAll0, PyData.depth, PyData.depthAll, PyData.eqv, PyData.eqvAll]
  rw [Bool.eq_iff_iff]
  simp
end Kx
set_option Elab.async false
set_option linter.all false
set_option maxRecDepth 100000
set_option maxHeartbeats 4000000
/-! accepts_bound and _law_is_bound -/
namespace Kx
open PySem PySem.Spec PyProof.Rows L2
theorem boundB_int {n : Nat} {rs : List Rule} {s e d : Int} {x y : D} : boundB n rs s e (.int d) (.tup [x, y]) = match htsD n y with
      | some hs => keeps rs hs && (decide (hAt hs e - hAt hs s = d) && decide (walkV rs s x = some (e, d)))
      | none => false := rfl
theorem boundB_non {n : Nat} {rs : List Rule} {s e : Int} {x y : D} : boundB n rs s e .non (.tup [x, y]) = (rightB n rs x && (match setD n y with
      | some xs => xs.contains e && (!xs.contains s && cutB rs xs)
      | none => false)) := rfl
theorem e_accepts_bound {n : Nat} {rs : List Rule} (h : OkN n rs) {s e : Int} (hs : Rg n s) (he : Rg n e) (num val : D) (h1 : Pl num = true) (h2 : Pl val = true) : F_accepts_bound [encN n rs, .int s, .int e, num, val] = some (.bl (boundB n rs s e num val)) := by
  unfold F_accepts_bound b_accepts_bound
  have rl := h.len
  have ck := e_check_two h hs he
  refine run_sl _ rfl (Ret.nx (ρ1 := [some (.fz (encN n rs)), some (.fz (.int s)), some (.fz (.int e)), some (.fz num), some (.fz val), none, none, none, none, none, none, none]) (by simp [ck]) ?_)
  cases val with
  | dct k => cases h2
  | non => simp [Ret, boundB]
  | bl b => simp [Ret, boundB]
  | int b => simp [Ret, boundB]
  | str b => simp [Ret, boundB]
  | lst b => simp [Ret, boundB]
  | tup ds =>
    rcases two_cases ds with ⟨x, y, rfl⟩ | hl
    · obtain ⟨px, py⟩ := plTwo h2
      refine Ret.nx (ρ1 := [some (.fz (encN n rs)), some (.fz (.int s)), some (.fz (.int e)), some (.fz num), some (.fz (.tup [x, y])), none, none, none, none, none, none, none]) (by simp) ?_
      cases num with
      | dct k => cases h1
      | non =>
        have r1 := e_are_right h x px
        have r2 := e_is_set (n := n) (rs := rs) y py
        rw [boundB_non]
        cases c1 : rightB n rs x with
        | false =>
          rw [c1] at r1
          simp [Ret, r1]
        | true =>
          rw [c1] at r1
          cases c2 : setD n y with
          | none =>
            rw [c2] at r2
            simp at r2
            simp [Ret, r1, r2]
          | some xs =>
            rw [c2] at r2
            obtain ⟨rfl, hx, hi⟩ := setD_some c2
            simp at r2
            unfold encI at r2 ⊢
            by_cases c3 : e ∈ xs
            · by_cases c4 : s ∈ xs
              · simp [Ret, r1, r2, c3, c4]
              · have c := eComp_map (vs := [7, 8, 9, 10]) (g := gTupT 4 (gsCons (gSet 7) (gsCons (gSet 8) (gsCons (gSet 9) (gsCons (gSet 10) (gsNil)))))) (ft := tYes') (fi := iSeq (eCall 1 F_edges_of (aCons (eName 0) (aNil)))) (fe := (eAnd (e2 (gInS true) (eName 8) (eName 6)) (e2 (gInS false) (eName 9) (eName 6))))
                  (ρ := [some (.fz (encN n rs)), some (.fz (.int s)), some (.fz (.int e)), some (.fz .non), some (.fz (.tup [x, .tup (xs.map D.int)])), some (.fz x), some (.fz (.tup (xs.map D.int))), none, none, none, none, none]) (edges rs) encE (fun e => .bl (!xs.contains e.a && xs.contains e.b)) _ (by simp [e_edges_of (show rs.length ≤ 12 by omega)]) rfl fun e he => by
                    by_cases d1 : e.a ∈ xs
                    · simp [cstep, encE, d1]
                    · simp [cstep, encE, d1]
                have ca := any_true (edges rs) (fun e => !xs.contains e.a && xs.contains e.b)
                simp at c ca
                simp [Ret, r1, r2, c3, c4, c, ca, cutB]
            · simp [Ret, r1, r2, c3]
      | int d =>
        have i1 := e_is_integer (.int d) rfl
        simp [numO] at i1
        have r1 := e_are_right h y py
        have w1 := e_walk_end (n := n) (rs := rs) s x px
        rw [boundB_int]
        unfold rightB at r1
        refine Ret.nx (ρ1 := [some (.fz (encN n rs)), some (.fz (.int s)), some (.fz (.int e)), some (.fz (.int d)), some (.fz (.tup [x, y])), none, none, none, none, none, none, none]) (by simp) ?_
        refine Ret.nx (ρ1 := [some (.fz (encN n rs)), some (.fz (.int s)), some (.fz (.int e)), some (.fz (.int d)), some (.fz (.tup [x, y])), some (.fz y), none, none, none, none, none, some (.fz x)]) (by simp) ?_
        cases c1 : htsD n y with
        | none =>
          rw [c1] at r1
          simp at r1
          simp [Ret, i1, r1]
        | some hs' =>
          rw [c1] at r1
          simp only at r1 ⊢
          obtain ⟨rfl, hl⟩ := htsD_some c1
          cases c2 : keeps rs hs' with
          | false =>
            rw [c2] at r1
            simp [Ret, i1, r1]
          | true =>
            rw [c2] at r1
            unfold encI at r1 ⊢
            have a1 := hAt_ix hl hs
            have a2 := hAt_ix hl he
            by_cases c3 : hAt hs' e - hAt hs' s = d
            · refine Ret.nx (ρ1 := [some (.fz (encN n rs)), some (.fz (.int s)), some (.fz (.int e)), some (.fz (.int d)), some (.fz (.tup [x, .tup (hs'.map D.int)])), some (.fz (.tup (hs'.map D.int))), none, none, none, none, none, some (.fz x)]) (by simp [i1, r1, a1, a2, c3]) ?_
              simp only [c3, decide_true, Bool.true_and]
              cases c4 : walkV rs s x with
              | none =>
                rw [c4] at w1
                simp [encO] at w1
                simp [Ret, w1]
              | some xl =>
                obtain ⟨z, l⟩ := xl
                rw [c4] at w1
                simp [encO] at w1
                have l1 : F_length_of [encN n rs, x] = some (.int l) := by
                  cases x with
                  | tup ds => exact e_length_of (plTup px).2 c4
                  | _ => cases c4
                by_cases c5 : z = e
                · by_cases c6 : l = d
                  · simp [Ret, w1, l1, c5, c6]
                  · simp [Ret, w1, l1, c5, c6]
                · simp [Ret, w1, c5]
            · simp [Ret, i1, r1, a1, a2, c3]
      | bl b =>
        have i1 := e_is_integer (.bl b) rfl
        simp [numO] at i1
        simp [Ret, i1, boundB]
      | str b =>
        have i1 := e_is_integer (.str b) rfl
        simp [numO] at i1
        simp [Ret, i1, boundB]
      | tup b =>
        have i1 := e_is_integer (.tup b) rfl
        simp [numO] at i1
        simp [Ret, i1, boundB]
      | lst b =>
        have i1 := e_is_integer (.lst b) rfl
        simp [numO] at i1
        simp [Ret, i1, boundB]
    · simp [Ret, hl, boundB_len hl]
theorem e_law_is_bound {n : Nat} {rs : List Rule} (h : OkN n rs) {s e : Int} (hs : Rg n s) (he : Rg n e) (num val : D) (h1 : Pl num = true) (h2 : Pl val = true) : F_law_is_bound [encN n rs, .int s, .int e, num, val] = some (.bl (boundB n rs s e num val)) := by
  unfold F_law_is_bound b_law_is_bound
  have rl := h.len
  refine run_sl [some (.fz (encN n rs)), some (.fz (.int s)), some (.fz (.int e)), some (.fz num), some (.fz val), none, none, none, none, none, none, none] rfl ?_
  cases val with
  | dct k => cases h2
  | non => simp [Ret, boundB]
  | bl b => simp [Ret, boundB]
  | int b => simp [Ret, boundB]
  | str b => simp [Ret, boundB]
  | lst b => simp [Ret, boundB]
  | tup ds =>
    rcases two_cases ds with ⟨x, y, rfl⟩ | hl
    · obtain ⟨px, py⟩ := plTwo h2
      refine Ret.nx (ρ1 := [some (.fz (encN n rs)), some (.fz (.int s)), some (.fz (.int e)), some (.fz num), some (.fz (.tup [x, y])), none, none, none, none, none, none, none]) (by simp) ?_
      cases num with
      | dct k => cases h1
      | non =>
        have r1 := e_law_are_right h x px
        have r2 := e_law_is_set (n := n) (rs := rs) y py
        rw [boundB_non]
        cases c1 : rightB n rs x with
        | false =>
          rw [c1] at r1
          simp [Ret, r1]
        | true =>
          rw [c1] at r1
          cases c2 : setD n y with
          | none =>
            rw [c2] at r2
            simp at r2
            simp [Ret, r1, r2]
          | some xs =>
            rw [c2] at r2
            obtain ⟨rfl, hx, hi⟩ := setD_some c2
            simp at r2
            unfold encI at r2 ⊢
            by_cases c3 : e ∈ xs
            · by_cases c4 : s ∈ xs
              · simp [Ret, r1, r2, c3, c4]
              · have c := eComp_map (vs := [7, 8, 9, 10]) (g := gTupT 4 (gsCons (gSet 7) (gsCons (gSet 8) (gsCons (gSet 9) (gsCons (gSet 10) (gsNil)))))) (ft := tYes') (fi := iSeq (eCall 1 F_law_edges (aCons (eName 0) (aNil)))) (fe := (eAnd (e2 (gInS true) (eName 8) (eName 6)) (e2 (gInS false) (eName 9) (eName 6))))
                  (ρ := [some (.fz (encN n rs)), some (.fz (.int s)), some (.fz (.int e)), some (.fz .non), some (.fz (.tup [x, .tup (xs.map D.int)])), some (.fz x), some (.fz (.tup (xs.map D.int))), none, none, none, none, none]) (edges rs) encE (fun e => .bl (!xs.contains e.a && xs.contains e.b)) _ (by simp [e_law_edges (show rs.length ≤ 12 by omega)]) rfl fun e he => by
                    by_cases d1 : e.a ∈ xs
                    · simp [cstep, encE, d1]
                    · simp [cstep, encE, d1]
                have ca := any_true (edges rs) (fun e => !xs.contains e.a && xs.contains e.b)
                simp at c ca
                simp [Ret, r1, r2, c3, c4, c, ca, cutB]
            · simp [Ret, r1, r2, c3]
      | int d =>
        have i1 := e_law_is_integer (.int d) rfl
        simp [numO] at i1
        have r1 := e_law_are_right h y py
        have w1 := e_law_walk (n := n) (show rs.length ≤ 12 by omega) s x px
        rw [boundB_int]
        unfold rightB at r1
        refine Ret.nx (ρ1 := [some (.fz (encN n rs)), some (.fz (.int s)), some (.fz (.int e)), some (.fz (.int d)), some (.fz (.tup [x, y])), none, none, none, none, none, none, none]) (by simp) ?_
        refine Ret.nx (ρ1 := [some (.fz (encN n rs)), some (.fz (.int s)), some (.fz (.int e)), some (.fz (.int d)), some (.fz (.tup [x, y])), some (.fz y), none, none, none, none, none, some (.fz x)]) (by simp) ?_
        cases c1 : htsD n y with
        | none =>
          rw [c1] at r1
          simp at r1
          simp [Ret, i1, r1]
        | some hs' =>
          rw [c1] at r1
          simp only at r1 ⊢
          obtain ⟨rfl, hl⟩ := htsD_some c1
          cases c2 : keeps rs hs' with
          | false =>
            rw [c2] at r1
            simp [Ret, i1, r1]
          | true =>
            rw [c2] at r1
            unfold encI at r1 ⊢
            have a1 := hAt_ix hl hs
            have a2 := hAt_ix hl he
            refine Ret.nx (ρ1 := [some (.fz (encN n rs)), some (.fz (.int s)), some (.fz (.int e)), some (.fz (.int d)), some (.fz (.tup [x, .tup (hs'.map D.int)])), some (.fz (.tup (hs'.map D.int))), none, none, none, none, none, some (.fz x)]) (by simp [i1, r1]) ?_
            by_cases c3 : hAt hs' e - hAt hs' s = d
            · simp only [c3, decide_true, Bool.true_and]
              cases c4 : walkV rs s x with
              | none =>
                rw [c4] at w1
                simp [encX] at w1
                simp [Ret, a1, a2, c3, w1]
              | some xl =>
                obtain ⟨z, l⟩ := xl
                rw [c4] at w1
                simp [encX] at w1
                by_cases c5 : z = e
                · by_cases c6 : l = d
                  · simp [Ret, a1, a2, c3, w1, c5, c6]
                  · simp [Ret, a1, a2, c3, w1, c5, c6]
                · simp [Ret, a1, a2, c3, w1, c5]
            · simp [Ret, i1, r1, a1, a2, c3]
      | bl b =>
        have i1 := e_law_is_integer (.bl b) rfl
        simp [numO] at i1
        simp [Ret, i1, boundB]
      | str b =>
        have i1 := e_law_is_integer (.str b) rfl
        simp [numO] at i1
        simp [Ret, i1, boundB]
      | tup b =>
        have i1 := e_law_is_integer (.tup b) rfl
        simp [numO] at i1
        simp [Ret, i1, boundB]
      | lst b =>
        have i1 := e_law_is_integer (.lst b) rfl
        simp [numO] at i1
        simp [Ret, i1, boundB]
    · simp [Ret, hl, boundB_len hl]
end Kx
set_option Elab.async false
set_option linter.all false
set_option maxRecDepth 100000
set_option maxHeartbeats 4000000
/-! limits -/
namespace Kx
open PySem PySem.Spec PyProof.Rows L2
abbrev Pr := Option Int × Option Int
def encPr (p : Pr) : D := .tup [encO p.1, encO p.2]
def cl (l : Int) (lo hi : Option Int) : Int := match lo, hi with
  | none, none => l
  | some a, none => max l a
  | none, some b => min l b
  | some a, some b => min (max l a) b
def nxt (p : Pr) (lo hi : Option Int) : Pr := (match p.1 with | none => lo | some l => some (cl l lo hi), match p.2 with | none => hi | some g => some (cl g lo hi))
theorem e_marks (a b : Option Int) (t : Int) : F_marks [encO a, encO b, .int t] = some (.tup [encO (a.map (t - ·)), encO (b.map (t + ·))]) := by
  cases a <;> cases b <;> rfl
theorem e_clamped (l : Int) (lo hi : Option Int) : F_clamped [.int l, encO lo, encO hi] = some (.int (cl l lo hi)) := by
  unfold F_clamped b_clamped
  cases lo <;> cases hi <;> simp [runD, encO, cl]
theorem e_law_clamped (l : Int) (lo hi : Option Int) : F_law_clamped [.int l, encO lo, encO hi] = some (.int (cl l lo hi)) := by
  unfold F_law_clamped b_law_clamped
  cases lo <;> cases hi <;> simp [runD, encO, cl]
theorem e_next_limits (p : Pr) (lo hi : Option Int) : F_next_limits [encPr p, encO lo, encO hi] = some (encPr (nxt p lo hi)) := by
  unfold F_next_limits b_next_limits
  obtain ⟨a, b⟩ := p
  cases a with
  | none =>
    cases b with
    | none => simp [runD, encPr, encO, nxt]
    | some y =>
      have c := e_clamped y lo hi
      simp [runD, encPr, nxt]
      simp [encO] at c ⊢
      simp [c]
  | some x =>
    have c := e_clamped x lo hi
    cases b with
    | none =>
      simp [runD, encPr, nxt]
      simp [encO] at c ⊢
      simp [c]
    | some y =>
      have c2 := e_clamped y lo hi
      simp [runD, encPr, nxt]
      simp [encO] at c c2 ⊢
      simp [c, c2]
theorem e_law_next_limits (p : Pr) (lo hi : Option Int) : F_law_next_limits [encPr p, encO lo, encO hi] = some (encPr (nxt p lo hi)) := by
  unfold F_law_next_limits b_law_next_limits
  obtain ⟨a, b⟩ := p
  cases a with
  | none =>
    cases b with
    | none => simp [runD, encPr, encO, nxt]
    | some y =>
      have c := e_law_clamped y lo hi
      simp [runD, encPr, nxt]
      simp [encO] at c ⊢
      simp [c]
  | some x =>
    have c := e_law_clamped x lo hi
    cases b with
    | none =>
      simp [runD, encPr, nxt]
      simp [encO] at c ⊢
      simp [c]
    | some y =>
      have c2 := e_law_clamped y lo hi
      simp [runD, encPr, nxt]
      simp [encO] at c c2 ⊢
      simp [c, c2]
def limF (b : Int → Int → Option Int) (e : Int) (p : Pr) (w : Int × Int) : Pr := nxt p ((b e w.1).map (w.2 - ·)) ((b w.1 e).map (w.2 + ·))
theorem e_limits_of {n : Nat} (b : Int → Int → Option Int) {row : List (Int × Int)} (hr : OkW n row) {e : Int} (he : Rg n e) : F_limits_of [encB n b, encW row, .int e] = some (encPr (row.foldl (limF b e) (none, none))) := by
  unfold F_limits_of b_limits_of
  refine run_sl _ rfl (Ret.nx (ρ1 := [some (.fz (encB n b)), some (.fz (encW row)), some (.fz (.int e)), some (.fz (encPr (none, none))), none, none, none, none]) (by simp [encPr, encO])
    (Ret.nx (for_fold row encP (fun p : Pr => [some (.fz (encB n b)), some (.fz (encW row)), some (.fz (.int e)), some (.fz (encPr p)), none, none, none, none]) (limF b e) (fun _ => True) (none, none) (by simp [encW]) (by simp) trivial ?_ fun _ _ _ _ => trivial) (Ret.rt (Ret.v (by simp)))))
  intro p w hw _
  have ho := (hr.2 w hw).1
  have m := e_marks (b e w.1) (b w.1 e) w.2
  have x := e_next_limits p ((b e w.1).map (w.2 - ·)) ((b w.1 e).map (w.2 + ·))
  simp [encP, encB_row he, encB_row ho, atI_ev ho, atI_ev he, m, x, limF]
theorem e_limits {n : Nat} {rs : List Rule} (h : OkN n rs) {hh : Int → Int} (p : Pot (edges rs) hh) {row : List (Int × Int)} (hr : OkW n row) : F_limits [encN n rs, encW row] = some (.tup ((ev n).map fun e => encPr (row.foldl (limF (B n rs) e) (none, none)))) := by
  unfold F_limits b_limits
  have n4 := h.n4
  refine run_sl _ rfl (Ret.nx (ρ1 := [some (.fz (encN n rs)), some (.fz (encW row)), none, none]) (by simp [e_check_net h]) (Ret.nx (ρ1 := [some (.fz (encN n rs)), some (.fz (encW row)), none, none]) (by simp [e_check_row hr]) (Ret.nx (ρ1 := [some (.fz (encN n rs)), some (.fz (encW row)), some (.fz (encB n (B n rs))), none]) (by simp [e_kept_bounds h p])
    (Ret.rt (Ret.e (eN_v (a1_v (eComp_map (ev n) D.int (fun e => encPr (row.foldl (limF (B n rs) e) (none, none))) _ (iRange_v (by simp) (by omega)) rfl fun e he => ?_)) (by simp)))))))
  simp [cstep, e_limits_of (B n rs) hr (mem_ev.mp he)]
def told2 (n : Nat) (rs : List Rule) (e : Int) (w : Int × Int) : D := .tup [.tup [encO (B n rs e w.1), told1 n rs e w.1], .tup [encO (B n rs w.1 e), told1 n rs w.1 e]]
theorem e_limit_evidence {n : Nat} {rs : List Rule} (h : OkN n rs) {hh : Int → Int} (p : Pot (edges rs) hh) {row : List (Int × Int)} (hr : OkW n row) {e : Int} (he : Rg n e) : F_limit_evidence [encN n rs, encW row, .int e] = some (.tup (row.map (told2 n rs e))) := by
  unfold F_limit_evidence b_limit_evidence
  have n4 := h.n4
  have r3 := hr.1
  refine run_sl _ rfl (Ret.nx (ρ1 := [some (.fz (encN n rs)), some (.fz (encW row)), some (.fz (.int e)), none, none, none, none, none, none]) (by simp [e_check_net h]) (Ret.nx (ρ1 := [some (.fz (encN n rs)), some (.fz (encW row)), some (.fz (.int e)), none, none, none, none, none, none]) (by simp [e_check_row hr]) (Ret.nx (ρ1 := [some (.fz (encN n rs)), some (.fz (encW row)), some (.fz (.int e)), none, none, none, none, none, none]) (by simp [e_check_event he]) (Ret.nx (ρ1 := [some (.fz (encN n rs)), some (.fz (encW row)), some (.fz (.int e)), some (.fz (encB n (B n rs))), none, none, none, none, none]) (by simp [e_kept_bounds h p])
    (Ret.nx (ρ1 := [some (.fz (encN n rs)), some (.fz (encW row)), some (.fz (.int e)), some (.fz (encB n (B n rs))), some (.ol []), none, none, none, none]) (by simp)
    (Ret.nx (for_cnt row encP (fun s : List D => [some (.fz (encN n rs)), some (.fz (encW row)), some (.fz (.int e)), some (.fz (encB n (B n rs))), some (.ol s), none, none, none, none]) (fun s w => s ++ [told2 n rs e w]) (fun k s => s.length ≤ k) [] (by simp [encW]) (by simp) (by simp) ?_ ?_) (Ret.rt (Ret.v ?_))))))))
  · intro k s w hw hk hs
    have ho := (hr.2 w hw).1
    have hl : s.length < 1000 := by omega
    simp [encP, encB_row he, encB_row ho, atI_ev ho, atI_ev he, e_bound_evidence h p he ho, e_bound_evidence h p ho he, hl, told2]
  · intro k s w hw hk hs
    simp
    omega
  · rw [foldl_flat, flat_single]
    simp
/-! ### the pair -/
def numN : D → Option (Option Int)
  | .non => some none
  | .int i => some (some i)
  | _ => none
def limD : D → Option Pr
  | .tup [a, b] => match numN a, numN b with
    | some x, some y => some (x, y)
    | _, _ => none
  | _ => none
theorem numN_some {d : D} {o : Option Int} (h : numN d = some o) : d = encO o := by
  cases d <;> cases h <;> rfl
theorem numN_enc (o : Option Int) : numN (encO o) = some o := by
  cases o <;> rfl
theorem limD_some {d : D} {p : Pr} (h : limD d = some p) : d = encPr p := by
  unfold limD at h
  split at h
  · rename_i a b
    split at h
    · rename_i x y e1 e2
      cases h
      rw [numN_some e1, numN_some e2]
      rfl
    · cases h
  · cases h
theorem limD_enc (p : Pr) : limD (encPr p) = some p := by
  unfold limD encPr
  simp only [numN_enc]
theorem limD_len {ds : List D} (h : ¬ ((ds.length : Int) = 2)) : limD (.tup ds) = none := by
  unfold limD
  split
  · rename_i heq
    cases heq
    simp at h
  · rfl
def isTwo : D → Bool
  | .tup ds => decide ((ds.length : Int) = 2)
  | _ => false
theorem isTwo_t {d : D} (h : isTwo d = true) : ∃ a b, d = .tup [a, b] := by
  cases d with
  | tup ds =>
    rcases two_cases ds with ⟨a, b, rfl⟩ | hl
    · exact ⟨a, b, rfl⟩
    · simp [isTwo, hl] at h
  | _ => cases h
theorem e_is_two (d : D) (h : noDct d = true) : F_is_two [d] = some (.bl (isTwo d)) := by
  unfold F_is_two b_is_two
  cases d with
  | dct k => cases h
  | tup ds => simp [runD, isTwo]
  | _ => simp [runD, isTwo]
theorem numN_e (d : D) (h : noDct d = true) : (isNon d || (numO d).isSome) = (numN d).isSome := by
  cases d <;> first | rfl | cases h
theorem limD_all (a b : D) : (limD (.tup [a, b])).isSome = ((numN a).isSome && (numN b).isSome) := by
  simp only [limD]
  cases numN a <;> cases numN b <;> rfl
theorem e_are_limits (d : D) (h : Pl d = true) : F_are_limits [d] = some (.bl (limD d).isSome) := by
  unfold F_are_limits b_are_limits
  have t := e_is_two d (plNo h)
  cases ht : isTwo d with
  | false =>
    rw [ht] at t
    have : limD d = none := by
      cases d with
      | tup ds => exact limD_len (by simpa [isTwo] using ht)
      | _ => rfl
    simp [runD, t, this]
  | true =>
    rw [ht] at t
    obtain ⟨a, b, rfl⟩ := isTwo_t ht
    obtain ⟨pa, pb⟩ := plTwo h
    have c := eComp_map (vs := [1]) (g := gSet 1) (ft := tYes') (fi := iSeq (eName 0)) (fe := (eOr (e1 gIsN (eName 1)) (eCall 1 F_is_integer (aCons (eName 1) (aNil))))) (ρ := [some (.fz (.tup [a, b])), none]) [a, b] id (fun d => .bl (numN d).isSome) _ (by simp) rfl fun d hd => by
      have hp : Pl d = true := by
        simp at hd
        rcases hd with rfl | rfl
        · exact pa
        · exact pb
      have hn := numN_e d (plNo hp)
      have hi := e_is_integer d (plNo hp)
      cases h1 : isNon d with
      | true =>
        rw [h1] at hn
        simp at hn
        simp [cstep, h1, hn]
      | false =>
        rw [h1] at hn
        simp only [Bool.false_or] at hn
        simp [cstep, h1, hi, hn]
    have ca := x_allB [(numN a).isSome, (numN b).isSome]
    simp at c ca
    refine run_sl _ rfl (Ret.rt (Ret.v ?_))
    rw [limD_all]
    simp [t, c, ca]
theorem eqPr (p q : Pr) : gEqv false (encPr p) (encPr q) = some (.bl (decide (p = q))) := by
  obtain ⟨a, b⟩ := p
  obtain ⟨c, d⟩ := q
  cases a <;> cases b <;> cases c <;> cases d <;> simp [encPr, encO, gEqv, py1, py0s, py0, SeqAt.shaped, PyData.canLay0, PyData.canLayAll0, PyData.depth, PyData.depthAll, PyData.eqv, PyData.eqvAll] <;> (try rw [Bool.eq_iff_iff]) <;> simp
end Kx
set_option Elab.async false
set_option linter.all false
set_option maxRecDepth 100000
set_option maxHeartbeats 4000000
/-! both judges of limits -/
namespace Kx
open PySem PySem.Spec PyProof.Rows L2
def foldO {α S : Type} (step : S → α → Option S) : List α → S → Option S
  | [], s => some s
  | a :: l, s => match step s a with
    | some s' => foldO step l s'
    | none => none
theorem foldO_zip {α S : Type} (step : S → α → Option S) : ∀ (l : List α) (k : Nat) (s : S), foldO (fun s (x : α × Nat) => step s x.1) (l.zipIdx k) s = foldO step l s
  | [], _, _ => rfl
  | a :: l, k, s => by
    rw [List.zipIdx_cons]
    unfold foldO
    simp only
    cases step s a with
    | none => rfl
    | some s' => exact foldO_zip step l (k + 1) s'
theorem loop_opt {α S : Type} {kill : List Nat} {g : Fg} {f : Fs} (enc : α → D) (R : S → Rho) (step : S → α → Option S) (d0 : D) :
    ∀ (l : List α) (s : S), (∀ s a, a ∈ l → match step s a with | some s' => turnR kill g f (enc a) (R s) = some (.nx (R s')) | none => Ret (turnR kill g f (enc a) (R s)) d0) →
    match foldO step l s with | some s' => loopR (turnR kill g f) (l.map enc) (R s) = some (.nx (R s')) | none => Ret (loopR (turnR kill g f) (l.map enc) (R s)) d0
  | [], s, _ => rfl
  | a :: l, s, h => by
    have h1 := h s a (List.mem_cons_self ..)
    rw [List.map_cons]
    unfold foldO loopR
    cases hs : step s a with
    | none =>
      rw [hs] at h1
      obtain ⟨ρ, h1⟩ := h1
      exact ⟨ρ, by rw [h1]⟩
    | some s' =>
      rw [hs] at h1
      simp only at h1 ⊢
      rw [h1]
      exact loop_opt enc R step d0 l s' fun s b hb => h s b (List.mem_cons_of_mem _ hb)
theorem Ret.forO {α S : Type} {kill : List Nat} {g : Fg} {f gg : Fs} {fi : Fi} {ρ : Rho} {d : D} (l : List α) (enc : α → D) (R : S → Rho) (step : S → α → Option S) (d0 : D) (s : S) (hi : fi ρ = some (l.map enc, ρ)) (h0 : wipeR ρ kill = R s)
    (h : ∀ s a, a ∈ l → match step s a with | some s' => turnR kill g f (enc a) (R s) = some (.nx (R s')) | none => Ret (turnR kill g f (enc a) (R s)) d0) (hn : foldO step l s = none → d = d0) (hs : ∀ s', foldO step l s = some s' → Ret (gg (R s')) d) : Ret (sCons (sFor kill fi g f) gg ρ) d := by
  have lp := loop_opt (kill := kill) (g := g) (f := f) enc R step d0 l s h
  have e : sFor kill fi g f ρ = loopR (turnR kill g f) (l.map enc) (R s) := by
    rw [x_sFor, hi]
    show loopR _ _ (wipeR ρ kill) = _
    rw [h0]
  cases hf : foldO step l s with
  | none =>
    rw [hf] at lp
    rw [hn hf]
    rw [← e] at lp
    exact Ret.rt lp
  | some s' =>
    rw [hf] at lp
    rw [← e] at lp
    exact Ret.nx lp (hs s' hf)
def itemD : D → Option (D × D × D × D)
  | .tup [.tup [a, b], .tup [c, d]] => some (a, b, c, d)
  | _ => none
theorem itemD_0 {v : D} (h : isTwo v = false) : itemD v = none := by
  unfold itemD
  split
  · simp [isTwo] at h
  · rfl
theorem itemD_1 {a b : D} (h : isTwo a = false) : itemD (.tup [a, b]) = none := by
  unfold itemD
  split
  · rename_i heq
    cases heq
    simp [isTwo] at h
  · rfl
theorem itemD_2 {a b : D} (h : isTwo b = false) : itemD (.tup [a, b]) = none := by
  unfold itemD
  split
  · rename_i heq
    cases heq
    simp [isTwo] at h
  · rfl
def stepJ (n : Nat) (rs : List Rule) (ev : Int) (f : Pr) (x : (Int × Int) × D) : Option Pr := match itemD x.2 with
  | some (n1, v1, n2, v2) => if boundB n rs ev x.1.1 n1 v1 = true then if boundB n rs x.1.1 ev n2 v2 = true then some (nxt f ((numO n1).map (x.1.2 - ·)) ((numO n2).map (x.1.2 + ·))) else none else none
  | none => none
def allB (n : Nat) (rs : List Rule) (ev : Int) (row : List (Int × Int)) (pair value : D) : Bool := match limD pair with
  | some p => match value with
    | .tup vs => decide (vs.length = row.length) && (match foldO (stepJ n rs ev) (row.zip vs) (none, none) with
      | some f => decide (f = p)
      | none => false)
    | _ => false
  | none => false
theorem boundB_num {n : Nat} {rs : List Rule} {s e : Int} {num val : D} (h : boundB n rs s e num val = true) : num = encO (numO num) := by
  cases num with
  | non => rfl
  | int i => rfl
  | _ =>
    unfold boundB at h
    split at h
    · cases h
    · cases h
theorem pl_item {a b c d : D} (h : Pl (.tup [.tup [a, b], .tup [c, d]]) = true) : Pl a = true ∧ Pl b = true ∧ Pl c = true ∧ Pl d = true := by
  obtain ⟨h1, h2⟩ := plTwo h
  obtain ⟨a1, a2⟩ := plTwo h1
  obtain ⟨a3, a4⟩ := plTwo h2
  exact ⟨a1, a2, a3, a4⟩
theorem e_accepts_limits {n : Nat} {rs : List Rule} (h : OkN n rs) {hh : Int → Int} (p : Pot (edges rs) hh) {row : List (Int × Int)} (hr : OkW n row) {e : Int} (he : Rg n e) (pair value : D) (h1 : Pl pair = true) (h2 : Pl value = true) :
    F_accepts_limits [encN n rs, encW row, .int e, pair, value] = some (.bl (allB n rs e row pair value)) := by
  unfold F_accepts_limits b_accepts_limits
  have hnr : noDct value = true := plNo h2
  have al := e_are_limits pair h1
  refine run_sl _ rfl (Ret.nx (ρ1 := [some (.fz (encN n rs)), some (.fz (encW row)), some (.fz (.int e)), some (.fz pair), some (.fz value), none, none, none, none, none]) (by simp [e_check_net h]) (Ret.nx (ρ1 := [some (.fz (encN n rs)), some (.fz (encW row)), some (.fz (.int e)), some (.fz pair), some (.fz value), none, none, none, none, none]) (by simp [e_check_row hr]) (Ret.nx (ρ1 := [some (.fz (encN n rs)), some (.fz (encW row)), some (.fz (.int e)), some (.fz pair), some (.fz value), none, none, none, none, none]) (by simp [e_check_event he]) (Ret.nx (ρ1 := [some (.fz (encN n rs)), some (.fz (encW row)), some (.fz (.int e)), some (.fz pair), some (.fz value), none, none, none, none, none]) (by simp [e_kept_bounds h p]) ?_))))
  unfold allB
  cases hl : limD pair with
  | none =>
    rw [hl] at al
    simp at al
    simp [Ret, al]
  | some q =>
    rw [hl] at al
    simp at al
    have hq := limD_some hl
    cases value with
    | dct k => cases h2
    | non => simp [Ret, al]
    | bl b => simp [Ret, al]
    | int b => simp [Ret, al]
    | str b => simp [Ret, al]
    | lst b => simp [Ret, al]
    | tup vs =>
      by_cases hlen : vs.length = row.length
      · refine Ret.nx (ρ1 := [some (.fz (encN n rs)), some (.fz (encW row)), some (.fz (.int e)), some (.fz pair), some (.fz (.tup vs)), none, none, none, none, none]) (by simp [al, encW, hlen]) (Ret.nx (ρ1 := [some (.fz (encN n rs)), some (.fz (encW row)), some (.fz (.int e)), some (.fz pair), some (.fz (.tup vs)), some (.fz (encPr (none, none))), none, none, none, none]) (by simp [encPr, encO])
          (Ret.forO (row.zip vs) (fun x => .tup [encP x.1, x.2]) (fun f : Pr => [some (.fz (encN n rs)), some (.fz (encW row)), some (.fz (.int e)), some (.fz pair), some (.fz (.tup vs)), some (.fz (encPr f)), none, none, none, none]) (stepJ n rs e) (.bl false) (none, none) (by simp [encW, zipD, List.zip_map_left]) (by simp) ?_ (fun hf => by simp [hf]) fun f hf => ?_))
        · intro f x hx
          obtain ⟨⟨o, t⟩, v⟩ := x
          have ho : Rg n o := (hr.2 (o, t) (List.of_mem_zip hx).1).1
          have pv : Pl v = true := PlA_iff.mp (plTup h2).2 v (List.of_mem_zip hx).2
          unfold stepJ
          have t0 := e_is_two v (plNo pv)
          cases c0 : isTwo v with
          | false =>
            rw [c0] at t0
            rw [itemD_0 c0]
            simp [Ret, encP, t0]
          | true =>
            rw [c0] at t0
            obtain ⟨a, b, rfl⟩ := isTwo_t c0
            obtain ⟨pa, pb⟩ := plTwo pv
            have t1 := e_is_two a (plNo pa)
            have t2 := e_is_two b (plNo pb)
            cases c1 : isTwo a with
            | false =>
              rw [c1] at t1
              rw [itemD_1 c1]
              simp [Ret, encP, t0, t1]
            | true =>
              rw [c1] at t1
              cases c2 : isTwo b with
              | false =>
                rw [c2] at t2
                rw [itemD_2 c2]
                simp [Ret, encP, t0, t1, t2]
              | true =>
                rw [c2] at t2
                obtain ⟨n1, v1, rfl⟩ := isTwo_t c1
                obtain ⟨n2, v2, rfl⟩ := isTwo_t c2
                obtain ⟨p1, p2, p3, p4⟩ := pl_item pv
                have b1 := e_accepts_bound h he ho n1 v1 p1 p2
                have b2 := e_accepts_bound h ho he n2 v2 p3 p4
                simp only [itemD]
                cases d1 : boundB n rs e o n1 v1 with
                | false =>
                  rw [d1] at b1
                  simp [Ret, encP, t0, t1, t2, b1]
                | true =>
                  rw [d1] at b1
                  cases d2 : boundB n rs o e n2 v2 with
                  | false =>
                    rw [d2] at b2
                    simp [Ret, encP, t0, t1, t2, b1, b2]
                  | true =>
                    rw [d2] at b2
                    have m := e_marks (numO n1) (numO n2) t
                    have x := e_next_limits f ((numO n1).map (t - ·)) ((numO n2).map (t + ·))
                    rw [← boundB_num d1, ← boundB_num d2] at m
                    simp [encP, t0, t1, t2, b1, b2, m, x]
        · have := eqPr f q
          rw [← hq] at this
          simp only [hf, hlen, decide_true, Bool.true_and]
          exact Ret.rt (Ret.v (by simp [this]))
      · have hlen' : ¬ ((vs.length : Int) = row.length) := by omega
        simp [Ret, al, encW, hlen, hlen']
theorem e_law_is_right {n : Nat} {rs : List Rule} (h : OkN n rs) {row : List (Int × Int)} (hr : OkW n row) {e : Int} (he : Rg n e) (pair value : D) (h1 : Pl pair = true) (h2 : Pl value = true) :
    F_law_is_right [encN n rs, encW row, .int e, pair, value] = some (.bl (allB n rs e row pair value)) := by
  unfold F_law_is_right b_law_is_right
  have r3 := hr.1
  refine run_sl [some (.fz (encN n rs)), some (.fz (encW row)), some (.fz (.int e)), some (.fz pair), some (.fz value), none, none, none, none, none, none] rfl ?_
  unfold allB
  cases pair with
  | dct k => cases h1
  | non => simp [Ret, limD]
  | bl b => simp [Ret, limD]
  | int b => simp [Ret, limD]
  | str b => simp [Ret, limD]
  | lst b => simp [Ret, limD]
  | tup ps =>
    rcases two_cases ps with ⟨a, b, rfl⟩ | hl2
    · obtain ⟨pa, pb⟩ := plTwo h1
      have c := eComp_map (vs := [5]) (g := gSet 5) (ft := tYes') (fi := iSeq (eName 3)) (fe := (eOr (e1 gIsN (eName 5)) (eCall 1 F_law_is_integer (aCons (eName 5) (aNil))))) (ρ := [some (.fz (encN n rs)), some (.fz (encW row)), some (.fz (.int e)), some (.fz (.tup [a, b])), some (.fz value), none, none, none, none, none, none]) [a, b] id (fun d => .bl (numN d).isSome) _ (by simp) rfl fun d hd => by
        have hp : Pl d = true := by
          simp at hd
          rcases hd with rfl | rfl
          · exact pa
          · exact pb
        have hn := numN_e d (plNo hp)
        have hi := e_law_is_integer d (plNo hp)
        cases h1 : isNon d with
        | true =>
          rw [h1] at hn
          simp at hn
          simp [cstep, h1, hn]
        | false =>
          rw [h1] at hn
          simp only [Bool.false_or] at hn
          simp [cstep, h1, hi, hn]
      have ca := x_allB [(numN a).isSome, (numN b).isSome]
      have la := limD_all a b
      simp at c ca
      cases hl : limD (.tup [a, b]) with
      | none =>
        rw [hl] at la
        simp only [Option.isSome_none] at la
        rw [← la] at ca
        simp [Ret, c, ca]
      | some q =>
        rw [hl] at la
        simp only [Option.isSome_some] at la
        rw [← la] at ca
        have hq := limD_some hl
        refine Ret.nx (ρ1 := [some (.fz (encN n rs)), some (.fz (encW row)), some (.fz (.int e)), some (.fz (.tup [a, b])), some (.fz value), none, none, none, none, none, none]) (by simp [c, ca]) ?_
        cases value with
        | dct k => cases h2
        | non => simp [Ret]
        | bl b => simp [Ret]
        | int b => simp [Ret]
        | str b => simp [Ret]
        | lst b => simp [Ret]
        | tup vs =>
          by_cases hlen : vs.length = row.length
          · refine Ret.nx (ρ1 := [some (.fz (encN n rs)), some (.fz (encW row)), some (.fz (.int e)), some (.fz (.tup [a, b])), some (.fz (.tup vs)), none, none, none, none, none, none]) (by simp [encW, hlen]) (Ret.nx (ρ1 := [some (.fz (encN n rs)), some (.fz (encW row)), some (.fz (.int e)), some (.fz (.tup [a, b])), some (.fz (.tup vs)), none, some (.fz (encPr (none, none))), none, none, none, none]) (by simp [encPr, encO])
              (Ret.forO (row.zip vs).zipIdx (fun x => .int (x.2 : Nat)) (fun f : Pr => [some (.fz (encN n rs)), some (.fz (encW row)), some (.fz (.int e)), some (.fz (.tup [a, b])), some (.fz (.tup vs)), none, some (.fz (encPr f)), none, none, none, none]) (fun f x => stepJ n rs e f x.1) (.bl false) (none, none) (by rw [zip_ev]; exact iRange_v (by simp [encW, hlen]) (by simp [hlen]; omega)) (by simp) ?_ (fun hf => ?_) fun f hf => ?_))
            · intro f x hx
              have hg := zip_get hx
              obtain ⟨⟨⟨o, t⟩, v⟩, k⟩ := x
              simp only at hg ⊢
              have hm := List.mem_of_getElem? hg
              have ho : Rg n o := (hr.2 (o, t) (List.of_mem_zip hm).1).1
              have pv : Pl v = true := PlA_iff.mp (plTup h2).2 v (List.of_mem_zip hm).2
              have g1 : row[k]? = some (o, t) := (List.getElem?_zip_eq_some.mp hg).1
              have g2 : vs[k]? = some v := (List.getElem?_zip_eq_some.mp hg).2
              have q1 : atI (row.map encP) (k : Int) = some (encP (o, t)) := by
                rw [atI_nat, List.getElem?_map, g1]
                rfl
              have q2 : atI vs (k : Int) = some v := by
                rw [atI_nat, g2]
              unfold stepJ
              simp [encP] at q1
              cases c0 : isTwo v with
              | false =>
                rw [itemD_0 c0]
                cases v with
                | dct k => cases pv
                | tup ws =>
                  simp [isTwo] at c0
                  have c0' : ¬ ((ws.length : Int) = 2) := by omega
                  simp [Ret, encW, q1, q2, c0']
                | _ => simp [Ret, encW, q1, q2]
              | true =>
                obtain ⟨a', b', rfl⟩ := isTwo_t c0
                obtain ⟨pa', pb'⟩ := plTwo pv
                have cc := eComp_map (vs := [5]) (g := gSet 5) (ft := tYes') (fi := iSeq (eName 8)) (fe := (eAnd (e1 (gIsi isTupD) (eName 5)) (e2 (gEqv false) (eN gLen (aCons (eName 5) (aNil))) (eC (.int 2))))) (ρ := [some (.fz (encN n rs)), some (.fz (.tup (row.map encP))), some (.fz (.int e)), some (.fz (.tup [a, b])), some (.fz (.tup vs)), none, some (.fz (encPr f)), some (.fz (.int (k : Int))), some (.fz (.tup [a', b'])), none, none]) [a', b'] id (fun d => .bl (isTwo d)) _ (by simp) rfl fun d hd => by
                  have hp : Pl d = true := by
                    simp at hd
                    rcases hd with rfl | rfl
                    · exact pa'
                    · exact pb'
                  cases d with
                  | dct k => cases hp
                  | tup ws => simp [cstep, isTwo]
                  | _ => simp [cstep, isTwo]
                have cb := x_allB [isTwo a', isTwo b']
                simp at cc cb
                cases c1 : isTwo a' with
                | false =>
                  rw [c1] at cb
                  rw [c1] at cc
                  rw [itemD_1 c1]
                  simp at cb
                  simp [Ret, encW, q1, q2, cc, cb]
                | true =>
                  rw [c1] at cb
                  rw [c1] at cc
                  cases c2 : isTwo b' with
                  | false =>
                    rw [c2] at cb
                    rw [c2] at cc
                    rw [itemD_2 c2]
                    simp at cb
                    simp [Ret, encW, q1, q2, cc, cb]
                  | true =>
                    rw [c2] at cb
                    rw [c2] at cc
                    simp at cb
                    obtain ⟨n1, v1, rfl⟩ := isTwo_t c1
                    obtain ⟨n2, v2, rfl⟩ := isTwo_t c2
                    obtain ⟨p1, p2, p3, p4⟩ := pl_item pv
                    have b1 := e_law_is_bound h he ho n1 v1 p1 p2
                    have b2 := e_law_is_bound h ho he n2 v2 p3 p4
                    simp only [itemD]
                    cases d1 : boundB n rs e o n1 v1 with
                    | false =>
                      rw [d1] at b1
                      simp [Ret, encW, q1, q2, cc, cb, b1]
                    | true =>
                      rw [d1] at b1
                      cases d2 : boundB n rs o e n2 v2 with
                      | false =>
                        rw [d2] at b2
                        simp [Ret, encW, q1, q2, cc, cb, b1, b2]
                      | true =>
                        rw [d2] at b2
                        have x := e_law_next_limits f ((numO n1).map (t - ·)) ((numO n2).map (t + ·))
                        have e1 := boundB_num d1
                        have e2 := boundB_num d2
                        revert x e1 e2
                        generalize numO n1 = o1
                        generalize numO n2 = o2
                        intro x e1 e2
                        subst e1
                        subst e2
                        cases o1 <;> cases o2 <;> simp [encO] at b1 b2 x cc q2 ⊢ <;> simp [encW, q1, q2, cc, cb, b1, b2, x]
            · rw [foldO_zip] at hf
              simp [hf]
            · rw [foldO_zip] at hf
              have eq := eqPr f q
              rw [← hq] at eq
              simp only [hf, hlen, decide_true, Bool.true_and]
              exact Ret.rt (Ret.v (by simp [eq]))
          · have hlen' : ¬ ((vs.length : Int) = row.length) := by omega
            simp [Ret, encW, hlen, hlen']
    · simp [Ret, hl2, limD_len hl2]
end Kx
set_option Elab.async false
set_option linter.all false
set_option maxRecDepth 100000
set_option maxHeartbeats 4000000
/-! evidence is right, and right evidence tells the distances -/
namespace Kx
open PySem PySem.Spec PyProof.Rows L2
theorem keeps_pot {rs : List Rule} {hs : List Int} (h : keeps rs hs = true) : Pot (edges rs) (hAt hs) := fun e he => by
  unfold keeps at h
  have := List.all_eq_true.mp h e he
  simpa using this
theorem pot_keeps {rs : List Rule} {hs : List Int} (h : Pot (edges rs) (hAt hs)) : keeps rs hs = true := by
  unfold keeps
  rw [List.all_eq_true]
  intro e he
  simpa using h e he
theorem cut_walk {rs : List Rule} {xs : List Int} (h : cutB rs xs = true) : ∀ {i j : Int} {w : List Ed}, IsW (edges rs) i w j → i ∉ xs → j ∉ xs
  | i, j, [], hw, hi => by
    cases hw
    exact hi
  | i, j, e :: w, ⟨h0, h1, hw⟩, hi => by
    refine cut_walk h hw fun hb => ?_
    unfold cutB at h
    have : ((edges rs).any fun e => !xs.contains e.a && xs.contains e.b) = true := List.any_eq_true.mpr ⟨e, h0, by simp [h1, hi, hb]⟩
    rw [this] at h
    cases h
theorem stepE_mem {rs : List Rule} {here : Int} {d : D} {e : Ed} (h : stepE rs here d = some e) : e ∈ edges rs ∧ e.a = here := by
  have key : ∃ i x, d = .tup [.int i, .str x] := by
    unfold stepE at h
    split at h
    · rename_i e' he
      unfold edgeAt at he
      split at he
      · exact ⟨_, _, rfl⟩
      · cases he
    · cases h
  obtain ⟨i, x, rfl⟩ := key
  have f := edges_filter rs here i x
  rw [h] at f
  have hm : e ∈ (edges rs).filter (fun e => (e.ix == i && e.sd == x) && decide (e.a = here)) := by
    rw [f]
    simp
  rw [List.mem_filter] at hm
  refine ⟨hm.1, ?_⟩
  have := hm.2
  simp at this
  exact this.2
theorem walkD_real {rs : List Rule} : ∀ {ds : List D} {here x l : Int}, walkD rs here ds = some (x, l) → ∃ w, IsW (edges rs) here w x ∧ tot w = l
  | [], here, x, l, h => by
    cases h
    exact ⟨[], rfl, rfl⟩
  | d :: ds, here, x, l, h => by
    unfold walkD at h
    split at h
    · rename_i e he
      split at h
      · rename_i x' l' hw
        cases h
        obtain ⟨w, a, b⟩ := walkD_real hw
        obtain ⟨m1, m2⟩ := stepE_mem he
        exact ⟨e :: w, ⟨m1, m2, a⟩, by simp [tot, b]⟩
      · cases h
    · cases h
theorem bound_sound {n : Nat} {rs : List Rule} (h : OkN n rs) {hh : Int → Int} (p : Pot (edges rs) hh) {s e : Int} (hs : Rg n s) {num val : D} (hb : boundB n rs s e num val = true) : num = encO (B n rs s e) := by
  have hd := B_dist h p hs e
  have hnum := boundB_num hb
  cases val with
  | tup ds =>
    rcases two_cases ds with ⟨x, y, rfl⟩ | hl
    · cases num with
      | non =>
        rw [boundB_non] at hb
        simp only [Bool.and_eq_true] at hb
        obtain ⟨_, hb⟩ := hb
        cases hx : setD n y with
        | none =>
          rw [hx] at hb
          cases hb
        | some xs =>
          rw [hx] at hb
          simp only [Bool.and_eq_true] at hb
          obtain ⟨h1, h2, h3⟩ := hb
          have : Dist (edges rs) s e none := fun w hw => cut_walk h3 hw (by simpa using h2) (by simpa using h1)
          rw [Dist.uniq hd this]
          rfl
      | int d =>
        rw [boundB_int] at hb
        cases hx : htsD n y with
        | none =>
          rw [hx] at hb
          cases hb
        | some xs =>
          rw [hx] at hb
          simp only [Bool.and_eq_true, decide_eq_true_eq] at hb
          obtain ⟨h1, h2, h3⟩ := hb
          have : Dist (edges rs) s e (some d) := by
            cases x with
            | tup ws =>
              obtain ⟨w, a, b⟩ := walkD_real h3
              refine ⟨⟨w, a, b⟩, fun w hw => ?_⟩
              have := pot_walk (keeps_pot h1) hw
              omega
            | _ => cases h3
          rw [Dist.uniq hd this]
          rfl
      | _ => cases hb
    · rw [boundB_len hl] at hb
      cases hb
  | _ => cases hb
/-! ### what the program tells is right -/
theorem hAt_ev {n : Nat} {g : Int → Int} {i : Int} (hi : Rg n i) : hAt ((ev n).map g) i = g i := by
  unfold hAt List.getD
  rw [List.getElem?_map, ev_get hi]
  rfl
theorem htsD_ev {n : Nat} (g : Int → Int) : htsD n (encI ((ev n).map g)) = some ((ev n).map g) := by
  unfold encI
  rw [htsD_val (dInts_map _), if_pos (by rw [List.length_map, ev_length])]
theorem mem_edges {rs : List Rule} {e : Ed} (h : e ∈ edges rs) : edgeAt rs (encK e) = some e := by
  unfold edges at h
  rw [List.mem_flatMap] at h
  obtain ⟨⟨r, k⟩, hr, he⟩ := h
  have hg := zip_get hr
  simp only at hg
  have key : e.ix = k ∧ edOf k r e.sd = some e := by
    obtain ⟨s, e', lo, hi⟩ := r
    cases lo <;> cases hi <;> simp [edR, edHi, edLo] at he
    · subst he
      exact ⟨rfl, by simp [edOf, Ed.sd]⟩
    · subst he
      exact ⟨rfl, by simp [edOf, Ed.sd, Ne.symm high_low]⟩
    · rcases he with rfl | rfl
      · exact ⟨rfl, by simp [edOf, Ed.sd]⟩
      · exact ⟨rfl, by simp [edOf, Ed.sd, Ne.symm high_low]⟩
  simp only [edgeAt, encK]
  rw [key.1, if_pos (by omega), Int.toNat_natCast, hg]
  exact key.2
theorem walkD_of {rs : List Rule} : ∀ {w : List Ed} {i j : Int}, IsW (edges rs) i w j → walkD rs i (w.map encK) = some (j, tot w)
  | [], i, j, h => by
    cases h
    rfl
  | e :: w, i, j, ⟨h0, h1, h⟩ => by
    have hs : stepE rs i (encK e) = some e := by
      unfold stepE
      rw [mem_edges h0]
      simp only [if_pos h1]
    rw [List.map_cons]
    unfold walkD
    rw [hs]
    simp only [walkD_of h, tot]
section
variable {n : Nat} {rs : List Rule} {hh : Int → Int}
theorem B_step (h : OkN n rs) (p : Pot (edges rs) hh) {o : Int} (ho : Rg n o) {e : Ed} (he : e ∈ edges rs) {d : Int} (hd : B n rs o e.a = some d) : ∃ d', B n rs o e.b = some d' ∧ d' ≤ d + e.w := by
  have h1 := B_dist h p ho e.a
  have h2 := B_dist h p ho e.b
  rw [hd] at h1
  obtain ⟨⟨v, hv, ht⟩, _⟩ := h1
  have hw := isW_snoc hv he rfl
  cases hb : B n rs o e.b with
  | none =>
    rw [hb] at h2
    exact absurd hw (h2 _)
  | some d' =>
    rw [hb] at h2
    have := h2.2 _ hw
    rw [tot_snoc] at this
    exact ⟨d', rfl, by omega⟩
theorem hgt_mem (h : OkN n rs) (p : Pot (edges rs) hh) {a : Int} (ha : Rg n a) : ∃ o, Rg n o ∧ B n rs o a = some (hgt n (B n rs) a) := by
  have hne := mins_ne ha (B_self h p ha)
  unfold hgt
  cases hm : mins n (B n rs) a with
  | nil => exact absurd hm hne
  | cons x xs =>
    have := (minL_spec xs x).1
    rw [← hm] at this
    unfold mins at this
    rw [List.mem_filterMap] at this
    obtain ⟨o, ho, hB⟩ := this
    exact ⟨o, mem_ev.mp ho, hB⟩
theorem hgt_le {a o d : Int} (ho : Rg n o) (hd : B n rs o a = some d) : hgt n (B n rs) a ≤ d := by
  have hm : d ∈ mins n (B n rs) a := List.mem_filterMap.mpr ⟨o, mem_ev.mpr ho, hd⟩
  unfold hgt
  cases hx : mins n (B n rs) a with
  | nil =>
    rw [hx] at hm
    cases hm
  | cons x xs =>
    rw [hx] at hm
    exact (minL_spec xs x).2 d hm
theorem hgt_pot (h : OkN n rs) (p : Pot (edges rs) hh) {e : Ed} (he : e ∈ edges rs) : hgt n (B n rs) e.b - hgt n (B n rs) e.a ≤ e.w := by
  obtain ⟨ra, rb⟩ := edges_rg h e he
  obtain ⟨o, ho, hd⟩ := hgt_mem h p ra
  obtain ⟨d', h1, h2⟩ := B_step h p ho he hd
  have := hgt_le ho h1
  omega
theorem hgt_right (h : OkN n rs) (p : Pot (edges rs) hh) : rightB n rs (encI ((ev n).map (hgt n (B n rs)))) = true := by
  unfold rightB
  rw [htsD_ev]
  refine pot_keeps fun e he => ?_
  obtain ⟨ra, rb⟩ := edges_rg h e he
  rw [hAt_ev ra, hAt_ev rb]
  exact hgt_pot h p he
theorem lst1_mono {f : Int → Int → Option Int} {s e L o t : Int} (h : t ≤ L) : t ≤ lst1 n f s e L o := by
  unfold lst1
  split
  · exact Int.le_trans h (Int.le_max_left _ _)
  · exact h
theorem lst2_mono {f : Int → Int → Option Int} {s L e t : Int} (h : t ≤ L) : t ≤ lst2 n f s L e := by
  unfold lst2
  split
  · exact h
  · exact foldl_inv (lst1 n f s e) (fun L => t ≤ L) (Kn n f s) L h fun L o _ hL => lst1_mono hL
theorem lft_ge {f : Int → Int → Option Int} {s e o d : Int} (he : Rg n e) (hK : e ∉ Kn n f s) (ho : o ∈ Kn n f s) (hd : f e o = some d) : bv f s o - d - (hgt n f e - hgt n f s) ≤ lft n f s := by
  unfold lft
  refine foldl_ach (a := e) (step := lst2 n f s) (Q := fun L => bv f s o - d - (hgt n f e - hgt n f s) ≤ L) (fun L b hL => lst2_mono hL) (fun L => ?_) (mem_ev.mpr he)
  unfold lst2
  rw [if_neg (by simpa using hK)]
  refine foldl_ach (a := o) (step := lst1 n f s e) (Q := fun L => bv f s o - d - (hgt n f e - hgt n f s) ≤ L) (fun L b hL => lst1_mono hL) (fun L => ?_) ho
  unfold lst1
  rw [hd]
  exact Int.le_max_right _ _
theorem pul_in {f : Int → Int → Option Int} {s e : Int} (h : e ∈ Kn n f s) : pul n f s e = bv f s e := by
  unfold pul
  rw [if_pos (by simpa using h)]
theorem pul_out {f : Int → Int → Option Int} {s e : Int} (h : e ∉ Kn n f s) : pul n f s e = hgt n f e - hgt n f s + lft n f s := by
  unfold pul
  rw [if_neg (by simpa using h)]
theorem pul_right (h : OkN n rs) (p : Pot (edges rs) hh) {s : Int} (hs : Rg n s) : keeps rs ((ev n).map (pul n (B n rs) s)) = true := by
  refine pot_keeps fun e he => ?_
  obtain ⟨ra, rb⟩ := edges_rg h e he
  rw [hAt_ev ra, hAt_ev rb]
  by_cases ka : e.a ∈ Kn n (B n rs) s
  · obtain ⟨d, hd⟩ := Option.isSome_iff_exists.mp (mem_Kn.mp ka).2
    obtain ⟨d', h1, h2⟩ := B_step h p hs he hd
    have kb : e.b ∈ Kn n (B n rs) s := mem_Kn.mpr ⟨rb, by rw [h1]; rfl⟩
    rw [pul_in ka, pul_in kb]
    unfold bv
    rw [hd, h1]
    simp
    omega
  · rw [pul_out ka]
    by_cases kb : e.b ∈ Kn n (B n rs) s
    · obtain ⟨d, h1, h2⟩ := B_step h p ra he (B_self h p ra)
      have := lft_ge ra ka kb h1
      rw [pul_in kb]
      omega
    · rw [pul_out kb]
      have := hgt_pot h p he
      omega
theorem incr_of : ∀ {xs : List Int}, xs.Pairwise (· < ·) → incr xs = true := fun {xs} h => by
  unfold incr
  rw [List.all_eq_true]
  intro k hk
  have hr := mem_ev.mp hk
  unfold Rg at hr
  have h1 : k.toNat + 1 < xs.length := by omega
  have := List.pairwise_iff_getElem.mp h k.toNat (k.toNat + 1) (by omega) h1 (by omega)
  have e : (k + 1).toNat = k.toNat + 1 := by omega
  simp only [hAt, List.getD, e, List.getElem?_eq_getElem h1, List.getElem?_eq_getElem (show k.toNat < xs.length by omega), Option.getD_some]
  simpa using this
theorem ev_pair (n : Nat) : (ev n).Pairwise (· < ·) := by
  unfold ev
  rw [List.pairwise_map]
  exact List.pairwise_lt_range.imp fun h => by omega
theorem told_right (h : OkN n rs) (p : Pot (edges rs) hh) {i j : Int} (hi : Rg n i) (hj : Rg n j) : boundB n rs i j (encO (B n rs i j)) (told1 n rs i j) = true := by
  unfold told1
  have hBij : B n rs i j = (nLook (best n (edges rs)) (i, j)).map tot := rfl
  cases hl : nLook (best n (edges rs)) (i, j) with
  | some w =>
    rw [hl] at hBij
    simp only [Option.map_some] at hBij
    rw [hBij]
    simp only [encO]
    rw [boundB_int, htsD_ev]
    have hw := ((best_spec (edges_rg h)).real _ _ hl).1
    have ki : i ∈ Kn n (B n rs) i := mem_Kn.mpr ⟨hi, by rw [B_self h p hi]; rfl⟩
    have kj : j ∈ Kn n (B n rs) i := mem_Kn.mpr ⟨hj, by rw [hBij]; rfl⟩
    simp only [pul_right h p hi, hAt_ev hi, hAt_ev hj, pul_in ki, pul_in kj, Bool.true_and, Bool.and_eq_true, decide_eq_true_eq]
    refine ⟨?_, walkD_of hw⟩
    unfold bv
    rw [B_self h p hi, hBij]
    simp
  | none =>
    rw [hl] at hBij
    simp only [Option.map_none] at hBij
    rw [hBij]
    simp only [encO]
    rw [boundB_non, hgt_right h p, setD_mk (fun x hx => mem_ev.mp (List.mem_filter.mp hx).1) (incr_of ((ev_pair n).filter _))]
    simp only [Bool.true_and, Bool.and_eq_true]
    refine ⟨?_, ?_, ?_⟩
    · simp only [List.contains_iff_mem]
      exact List.mem_filter.mpr ⟨mem_ev.mpr hj, by rw [hBij]; rfl⟩
    · have : i ∉ (ev n).filter fun e => (B n rs i e).isNone := fun z => by
        have := (List.mem_filter.mp z).2
        rw [B_self h p hi] at this
        cases this
      simp [B_self h p hi]
    · unfold cutB
      rw [Bool.not_eq_true', List.any_eq_false]
      intro e he
      obtain ⟨ra, rb⟩ := edges_rg h e he
      simp only [Bool.and_eq_true, not_and, Bool.not_eq_true', List.contains_iff_mem]
      intro hna hb
      have hb2 := (List.mem_filter.mp hb).2
      cases hBa : B n rs i e.a with
      | none =>
        have : e.a ∈ (ev n).filter fun e => (B n rs i e).isNone := List.mem_filter.mpr ⟨mem_ev.mpr ra, by rw [hBa]; rfl⟩
        have c : ((ev n).filter fun e => (B n rs i e).isNone).contains e.a = true := by simpa using this
        rw [c] at hna
        cases hna
      | some d =>
        obtain ⟨d', h1, _⟩ := B_step h p hi he hBa
        rw [h1] at hb2
        cases hb2
/-! ### whole evidence -/
theorem numO_enc (o : Option Int) : numO (encO o) = o := by
  cases o <;> rfl
theorem told2_item (e : Int) (w : Int × Int) : itemD (told2 n rs e w) = some (encO (B n rs e w.1), told1 n rs e w.1, encO (B n rs w.1 e), told1 n rs w.1 e) := rfl
theorem told_fold (h : OkN n rs) (p : Pot (edges rs) hh) {e : Int} (he : Rg n e) : ∀ {row : List (Int × Int)} (f : Pr), (∀ w ∈ row, Rg n w.1) → foldO (stepJ n rs e) (row.zip (row.map (told2 n rs e))) f = some (row.foldl (limF (B n rs) e) f)
  | [], f, _ => rfl
  | w :: row, f, hr => by
    rw [List.map_cons, List.zip_cons_cons]
    unfold foldO
    have ho := hr w (List.mem_cons_self ..)
    have hs : stepJ n rs e f (w, told2 n rs e w) = some (limF (B n rs) e f w) := by
      simp only [stepJ, told2_item, told_right h p he ho, told_right h p ho he, if_true, numO_enc]
      rfl
    rw [hs]
    exact told_fold h p he _ fun w hw => hr w (List.mem_cons_of_mem _ hw)
theorem told_all (h : OkN n rs) (p : Pot (edges rs) hh) {row : List (Int × Int)} (hr : OkW n row) {e : Int} (he : Rg n e) (q : Pr) : allB n rs e row (encPr q) (.tup (row.map (told2 n rs e))) = decide (row.foldl (limF (B n rs) e) (none, none) = q) := by
  unfold allB
  rw [limD_enc]
  simp only [List.length_map, decide_true, Bool.true_and, told_fold h p he (none, none) fun w hw => (hr.2 w hw).1]
theorem stepJ_sound (h : OkN n rs) (p : Pot (edges rs) hh) {e : Int} (he : Rg n e) {f f' : Pr} {x : (Int × Int) × D} (ho : Rg n x.1.1) (hs : stepJ n rs e f x = some f') : f' = limF (B n rs) e f x.1 := by
  unfold stepJ at hs
  split at hs
  · rename_i n1 v1 n2 v2 hi
    split at hs
    · rename_i b1
      split at hs
      · rename_i b2
        cases hs
        rw [bound_sound h p he b1, bound_sound h p ho b2, numO_enc, numO_enc]
        rfl
      · cases hs
    · cases hs
  · cases hs
theorem fold_sound (h : OkN n rs) (p : Pot (edges rs) hh) {e : Int} (he : Rg n e) : ∀ {row : List (Int × Int)} {vs : List D} {f f' : Pr}, vs.length = row.length → (∀ w ∈ row, Rg n w.1) → foldO (stepJ n rs e) (row.zip vs) f = some f' → f' = row.foldl (limF (B n rs) e) f
  | [], vs, f, f', _, _, hf => by
    simp [foldO] at hf
    exact hf.symm
  | w :: row, [], f, f', hl, _, _ => by simp at hl
  | w :: row, v :: vs, f, f', hl, hr, hf => by
    rw [List.zip_cons_cons] at hf
    unfold foldO at hf
    split at hf
    · rename_i s' hs
      have := stepJ_sound h p he (x := (w, v)) (hr w (List.mem_cons_self ..)) hs
      subst this
      show f' = row.foldl (limF (B n rs) e) (limF (B n rs) e f w)
      exact fold_sound (row := row) (vs := vs) h p he (by simpa using hl) (fun w hw => hr w (List.mem_cons_of_mem _ hw)) hf
    · cases hf
theorem all_sound (h : OkN n rs) (p : Pot (edges rs) hh) {row : List (Int × Int)} (hr : OkW n row) {e : Int} (he : Rg n e) {pair value : D} (ha : allB n rs e row pair value = true) : pair = encPr (row.foldl (limF (B n rs) e) (none, none)) := by
  unfold allB at ha
  split at ha
  · rename_i q hq
    split at ha
    · rename_i vs
      simp only [Bool.and_eq_true, decide_eq_true_eq] at ha
      obtain ⟨hl, ha⟩ := ha
      split at ha
      · rename_i f hf
        rw [decide_eq_true_eq] at ha
        rw [limD_some hq, ← ha, fold_sound h p he hl (fun w hw => (hr.2 w hw).1) hf]
      · cases ha
    · cases ha
  · cases ha
end
end Kx
set_option Elab.async false
set_option linter.all false
set_option maxRecDepth 100000
set_option maxHeartbeats 4000000
/-! the stream -/
namespace Kx
open PySem PySem.Spec PyProof.Rows L2
@[simp] theorem x_sg0 (S : Strm) : stGet S 0 = some (.lst (S.scr.map D.int)) := rfl
@[simp] theorem x_sg1 (S : Strm) : stGet S 1 = some (.int S.cell) := rfl
@[simp] theorem x_sg2 (S : Strm) : stGet S 2 = some (.int S.k) := rfl
@[simp] theorem x_sp1 (S : Strm) (n : Int) : stPut S 1 n = some { S with cell := n } := rfl
@[simp] theorem x_sp2 (S : Strm) (n : Int) : stPut S 2 n = some { S with k := n } := rfl
@[simp] theorem x_ss0 (S : Strm) : setSt S [] = [] := rfl
@[simp] theorem x_ss1 (S T : Strm) (ρ : Rho) : setSt S (some (.st T) :: ρ) = some (.st S) :: setSt S ρ := rfl
@[simp] theorem x_ss2 (S : Strm) (d : D) (ρ : Rho) : setSt S (some (.fz d) :: ρ) = some (.fz d) :: setSt S ρ := rfl
@[simp] theorem x_ss3 (S : Strm) (d : List D) (ρ : Rho) : setSt S (some (.ol d) :: ρ) = some (.ol d) :: setSt S ρ := rfl
@[simp] theorem x_ss4 (S : Strm) (d : List ((Int × Int) × D)) (ρ : Rho) : setSt S (some (.od d) :: ρ) = some (.od d) :: setSt S ρ := rfl
@[simp] theorem x_ss5 (S : Strm) (ρ : Rho) : setSt S (none :: ρ) = none :: setSt S ρ := rfl
theorem mul_v {f : Int → Int → Int} (i j : Int) (h : -(2 ^ 64) < j ∧ j < 2 ^ 64) : gIC cMul f (.int i) (.int j) = some (.int (f i j)) := by
  have : cMul i j = true := decide_eq_true (.inr h)
  simp only [gIC, this, if_true]
theorem mod_v {f : Int → Int → Int} (i j : Int) (h : 0 < j) : gIC cMod f (.int i) (.int j) = some (.int (f i j)) := by
  have : cMod i j = true := decide_eq_true h
  simp only [gIC, this, if_true]
theorem div_v {f : Int → Int → Int} (i j : Int) (h : 0 < j ∧ j < 1073741824) : gIC cDiv f (.int i) (.int j) = some (.int (f i j)) := by
  have : cDiv i j = true := decide_eq_true h
  simp only [gIC, this, if_true]
@[simp] theorem mul1 {f : Int → Int → Int} (i : Int) : gIC cMul f (.int i) (.int 48271) = some (.int (f i 48271)) := mul_v i _ (by decide)
@[simp] theorem mul2 {f : Int → Int → Int} (i : Int) : gIC cMul f (.int i) (.int 69621) = some (.int (f i 69621)) := mul_v i _ (by decide)
@[simp] theorem mul3 {f : Int → Int → Int} (i : Int) : gIC cMul f (.int i) (.int 16807) = some (.int (f i 16807)) := mul_v i _ (by decide)
@[simp] theorem mul4 {f : Int → Int → Int} (i : Int) : gIC cMul f (.int i) (.int 65537) = some (.int (f i 65537)) := mul_v i _ (by decide)
@[simp] theorem mod1 {f : Int → Int → Int} (i : Int) : gIC cMod f (.int i) (.int 2147483647) = some (.int (f i 2147483647)) := mod_v i _ (by decide)
@[simp] theorem div2 {f : Int → Int → Int} (i : Int) : gIC cDiv f (.int i) (.int 2) = some (.int (f i 2)) := div_v i _ (by decide)
@[simp] theorem pow18 : gIC cPow (fun i j => i ^ j.toNat) (.int 10) (.int 18) = some (.int 1000000000000000000) := by rfl
def OkS (S : Strm) : Prop := 0 ≤ S.k
theorem run_s {N n : Nat} {fb : Fs} {S S' : Strm} {ds : List D} {d : D} {ρ : Rho} (h : fb (some (.st S) :: slots N n ds) = some (.rt d (some (.st S') :: ρ))) : runS N n fb S ds = some (d, S') := by
  unfold runS
  rw [h]
  rfl
/-- a def over the stream hands back d and leaves the stream S' -/
def RetS (r : Option Res) (d : D) (S' : Strm) : Prop := ∃ ρ, r = some (.rt d (some (.st S') :: ρ))
theorem run_rs {N n : Nat} {fb : Fs} {S S' : Strm} {ds : List D} {d : D} (h : RetS (fb (some (.st S) :: slots N n ds)) d S') : runS N n fb S ds = some (d, S') := by
  obtain ⟨ρ, h⟩ := h
  exact run_s h
theorem next_blk {S : Strm} {m : Int} (hk : OkS S) : ∃ S1 a b, (sIf (tBl (e2 (gEqv false) (eStIx 0 1) (eC (.int 0)))) (sCons (sSet 2 (eStIx 0 2)) (sCons (sSet 3 (e2 gAdd (eC (.int 7)) (eName 2))) (sCons (sIf (tBl (e2 (gB fun i j => decide (i < j)) (eName 2) (eN gLen (aCons (eStIx 0 0) (aNil))))) (sCons (sSet 3 (eN gAbs (aCons (e2 gIx (eStIx 0 0) (eName 2)) (aNil)))) (sNil)) (sNil)) (sCons (sIf (tBl (e2 (gB fun i j => decide (i < j)) (eName 3) (e2 (gIC cPow fun i j => i ^ j.toNat) (eC (.int 10)) (eC (.int 18))))) (sCons (sSet 3 (e2 (gIC cMod fun i j => i % j) (eN gInt (aCons (e2 gAdd (e2 gAdd (e2 (gIC cMul fun i j => i * j) (eName 3) (eC (.int 48271))) (e2 (gIC cMul fun i j => i * j) (eName 2) (eC (.int 69621)))) (eC (.int 11))) (aNil))) (eC (.int 2147483647)))) (sCons (sSet 3 (e2 gAdd (e2 (gIC cMul fun i j => i * j) (e2 (gIC cMod fun i j => i % j) (eN gInt (aCons (e2 gAdd (e2 (gIC cMul fun i j => i * j) (eName 3) (eC (.int 16807))) (eC (.int 13))) (aNil))) (eC (.int 2147483647))) (eC (.int 65537))) (eName 3))) (sNil))) (sNil)) (sCons (sStPut 0 1 (eName 3)) (sCons (sStPut 0 2 (e2 gAdd (eName 2) (eC (.int 1)))) (sNil))))))) (sNil))
    [some (.st S), some (.fz (.int m)), none, none, none] = some (.nx [some (.st S1), some (.fz (.int m)), a, b, none]) ∧ OkS S1 := by
  unfold OkS at *
  by_cases h0 : S.cell = 0
  · by_cases h1 : S.k < S.scr.length
    · obtain ⟨x, hx⟩ : ∃ x, atI (S.scr.map D.int) S.k = some (.int x) := by
        rw [atI_of _ hk, List.getElem?_map, List.getElem?_eq_getElem (show S.k.toNat < S.scr.length by omega)]
        exact ⟨_, rfl⟩
      by_cases h2 : (if x < 0 then -x else x) < 1000000000000000000
      · simp only [x_sIf, x_tBl, x_e2, x_eStIx, x_sg1, List.getElem?_cons_zero, x_eC, h0, x_eqII, decide_true]
        simp [h1, hx, h2]
        omega
      · simp only [x_sIf, x_tBl, x_e2, x_eStIx, x_sg1, List.getElem?_cons_zero, x_eC, h0, x_eqII, decide_true]
        simp [h1, hx, h2]
        omega
    · by_cases h2 : 7 + S.k < 1000000000000000000
      · simp only [x_sIf, x_tBl, x_e2, x_eStIx, x_sg1, List.getElem?_cons_zero, x_eC, h0, x_eqII, decide_true]
        simp [h1, h2]
        omega
      · simp only [x_sIf, x_tBl, x_e2, x_eStIx, x_sg1, List.getElem?_cons_zero, x_eC, h0, x_eqII, decide_true]
        simp [h1, h2]
        omega
  · simp [h0]
    exact hk
theorem next_ok {S : Strm} {m : Int} (hm : 0 < m ∧ m < 1073741824) (hk : OkS S) : ∃ d S', F_law_next S [.int m] = some (.int d, S') ∧ (0 ≤ d ∧ d < m) ∧ OkS S' := by
  obtain ⟨S1, a, b, h1, h2⟩ := next_blk (m := m) hk
  refine ⟨S1.cell % m, { S1 with cell := S1.cell / m }, ?_, ⟨Int.emod_nonneg _ (by omega), Int.emod_lt_of_pos _ hm.1⟩, h2⟩
  unfold F_law_next b_law_next
  refine run_rs ?_
  simp only [x_slots, List.map_cons, List.map_nil, List.cons_append, List.nil_append]
  rw [show List.replicate (4 - 1) (none : Option Sl) = [none, none, none] from rfl, x_sCons, h1]
  have c1 := mod_v (f := fun i j => i % j) S1.cell m hm.1
  have c2 := div_v (f := fun i j => i / j) S1.cell m hm
  simp [RetS, c1, c2, setSt]
/-! ### _law_gap -/
@[simp] theorem min_two (a b : Int) : gMinL [.lst [.int a, .int b]] = some (.int (min a b)) := rfl
@[simp] theorem max_two (a b : Int) : gMaxL [.lst [.int a, .int b]] = some (.int (max a b)) := rfl
theorem pick4 {d : Int} (h : 0 ≤ d ∧ d < 4) : ∃ g : Int, atI [D.int 0, .int 0, .int 1, .int 3] d = some (.int g) ∧ 0 ≤ g ∧ g ≤ 3 := by
  have : d = 0 ∨ d = 1 ∨ d = 2 ∨ d = 3 := by omega
  rcases this with rfl | rfl | rfl | rfl
  · exact ⟨0, rfl, by decide⟩
  · exact ⟨0, rfl, by decide⟩
  · exact ⟨1, rfl, by decide⟩
  · exact ⟨3, rfl, by decide⟩
/-- a rule that first keeps -/
structure GoodR (n : Nat) (first : List Int) (r : Rule) : Prop where
  ok : OkR n r
  lo : ∀ x, r.lo = some x → x ≤ hAt first r.e - hAt first r.s
  hi : ∀ x, r.hi = some x → hAt first r.e - hAt first r.s ≤ x
def Near (w : Int) (l : List Int) : Prop := ∀ x ∈ l, -w ≤ x ∧ x ≤ w
theorem near_at {n : Nat} {w : Int} {l : List Int} (h : Near w l) (hl : l.length = n) {i : Int} (hi : Rg n i) : -w ≤ hAt l i ∧ hAt l i ≤ w := by
  have hlt : i.toNat < l.length := by
    have := hi.1
    have := hi.2
    omega
  unfold hAt List.getD
  rw [List.getElem?_eq_getElem hlt]
  exact h _ (List.getElem_mem hlt)
theorem gap_ok {n : Nat} {S : Strm} (hk : OkS S) {first second : List Int} (l1 : first.length = n) (l2 : second.length = n) (n1 : Near 9 first) (n2 : Near 18 second) {s e : Int} (hs : Rg n s) (he : Rg n e) (ne : s ≠ e) :
    ∃ r S', F_law_gap S [.int s, .int e, .tup (first.map D.int), .tup (second.map D.int)] = some (encR r, S') ∧ GoodR n first r ∧ OkS S' := by
  obtain ⟨d1, S1, f1, r1, k1⟩ := next_ok (m := 4) (by decide) hk
  obtain ⟨d2, S2, f2, r2, k2⟩ := next_ok (m := 4) (by decide) k1
  obtain ⟨d3, S3, f3, r3, k3⟩ := next_ok (m := 4) (by decide) k2
  obtain ⟨g1, p1, q1⟩ := pick4 r1
  obtain ⟨g2, p2, q2⟩ := pick4 r2
  have a1 := hAt_ix l1 hs
  have a2 := hAt_ix l1 he
  have b1 := hAt_ix l2 hs
  have b2 := hAt_ix l2 he
  have na1 := near_at n1 l1 hs
  have na2 := near_at n1 l1 he
  have nb1 := near_at n2 l2 hs
  have nb2 := near_at n2 l2 he
  generalize hx : hAt first e - hAt first s = x at *
  generalize hy : hAt second e - hAt second s = y at *
  have wl : Wt (some (min x y - g1)) := fun z hz => by
    cases hz
    omega
  have wh : Wt (some (max x y + g2)) := fun z hz => by
    cases hz
    omega
  have wn : Wt none := fun z hz => by cases hz
  unfold F_law_gap b_law_gap
  by_cases c0 : d3 = 0
  · refine ⟨⟨s, e, some (min x y - g1), none⟩, S3, run_rs ?_, ⟨⟨hs, he, ne, wl, wn, .inl (by simp)⟩, fun z hz => ?_, (fun z hz => by cases hz)⟩, k3⟩
    · simp [x_eCallS, a1, a2, b1, b2, f1, f2, f3, p1, p2, c0, RetS, encR, encO, hx, hy]
    · cases hz
      simp only
      omega
  · by_cases c1 : d3 = 1
    · refine ⟨⟨s, e, none, some (max x y + g2)⟩, S3, run_rs ?_, ⟨⟨hs, he, ne, wn, wh, .inr (by simp)⟩, (fun z hz => by cases hz), fun z hz => ?_⟩, k3⟩
      · simp [x_eCallS, a1, a2, b1, b2, f1, f2, f3, p1, p2, c0, c1, RetS, encR, encO, hx, hy]
      · cases hz
        simp only
        omega
    · refine ⟨⟨s, e, some (min x y - g1), some (max x y + g2)⟩, S3, run_rs ?_, ⟨⟨hs, he, ne, wl, wh, .inl (by simp)⟩, fun z hz => ?_, fun z hz => ?_⟩, k3⟩
      · simp [x_eCallS, a1, a2, b1, b2, f1, f2, f3, p1, p2, c0, c1, RetS, encR, encO, hx, hy]
      · cases hz
        simp only
        omega
      · cases hz
        simp only
        omega
end Kx
set_option Elab.async false
set_option linter.all false
set_option maxRecDepth 100000
set_option maxHeartbeats 4000000
/-! the net and the row drawn -/
namespace Kx
open PySem PySem.Spec PyProof.Rows L2
theorem RetS.nx {f g : Fs} {ρ ρ1 : Rho} {d : D} {S' : Strm} (h : f ρ = some (.nx ρ1)) (h2 : RetS (g ρ1) d S') : RetS (sCons f g ρ) d S' := by
  rw [x_sCons, h]
  exact h2
theorem RetS.rt {f g : Fs} {ρ : Rho} {d : D} {S' : Strm} (h : RetS (f ρ) d S') : RetS (sCons f g ρ) d S' := by
  obtain ⟨ρ', h⟩ := h
  exact ⟨ρ', by rw [x_sCons, h]⟩
theorem comp_rel {α : Type} {vs : List Nat} {g : Fg} {ft : Ft} {fe : Fe} (enc : α → D) (R : Strm → Rho) (P : Int → Prop) : ∀ (l : List α) (acc : List D) (S : Strm), OkS S → (∀ S a, a ∈ l → OkS S → ∃ i S', cstep vs g ft fe (enc a) (R S) = some (some (.int i), R S') ∧ P i ∧ OkS S') →
    ∃ (is : List Int) (S' : Strm), compR vs g ft fe (l.map enc) acc (R S) = some (acc ++ is.map D.int, R S') ∧ is.length = l.length ∧ (∀ i ∈ is, P i) ∧ OkS S'
  | [], acc, S, hS, _ => ⟨[], S, by simp [compR], rfl, by simp, hS⟩
  | a :: l, acc, S, hS, h => by
    obtain ⟨i, S1, h1, h2, h3⟩ := h S a (List.mem_cons_self ..) hS
    obtain ⟨is, S', e1, e2, e3, e4⟩ := comp_rel (vs := vs) (g := g) (ft := ft) (fe := fe) enc R P l (acc ++ [.int i]) S1 h3 fun S b hb => h S b (List.mem_cons_of_mem _ hb)
    refine ⟨i :: is, S', ?_, by simp [e2], fun j hj => ?_, e4⟩
    · rw [List.map_cons]
      unfold compR
      rcases cstep_inv h1 with ⟨ρ1, ρ2, y, ρ3, q1, q2, q3, q4, q5⟩ | ⟨ρ1, ρ2, q1, q2, q4, q5⟩
      · cases q4
        simp only [q1, q2, q3, q5, e1]
        simp
      · cases q4
    · rcases List.mem_cons.mp hj with rfl | hj
      · exact h2
      · exact e3 j hj
theorem eComp_rel {α : Type} {vs : List Nat} {g : Fg} {ft : Ft} {fe : Fe} {fi : Fi} {ρ : Rho} (l : List α) (enc : α → D) (R : Strm → Rho) (P : Int → Prop) (S : Strm) (hi : fi ρ = some (l.map enc, ρ)) (h0 : wipeR ρ vs = R S) (hS : OkS S)
    (h : ∀ S a, a ∈ l → OkS S → ∃ i S', cstep vs g ft fe (enc a) (R S) = some (some (.int i), R S') ∧ P i ∧ OkS S') : ∃ (is : List Int) (S' : Strm), eComp vs fi g ft fe ρ = some (.lst (is.map D.int), R S') ∧ is.length = l.length ∧ (∀ i ∈ is, P i) ∧ OkS S' := by
  obtain ⟨is, S', e1, e2⟩ := comp_rel (vs := vs) (g := g) (ft := ft) (fe := fe) enc R P l [] S hS h
  refine ⟨is, S', ?_, e2⟩
  rw [x_eComp, hi]
  show (match compR vs g ft fe (l.map enc) [] (wipeR ρ vs) with | some (ys, ρ2) => _ | none => none) = _
  rw [h0, e1]
  rfl
theorem for_rel1 {α S : Type} {kill : List Nat} {g : Fg} {f : Fs} {fi : Fi} {ρ ρ1 : Rho} (l : List α) (enc : α → D) (R : S → Rho) (Inv : Nat → S → Prop) (s : S)
    (hi : fi ρ = some (l.map enc, ρ1)) (h0 : wipeR ρ1 kill = R s) (I0 : Inv 0 s) (h : ∀ k s a, a ∈ l → k < l.length → Inv k s → ∃ s', turnR kill g f (enc a) (R s) = some (.nx (R s')) ∧ Inv (k + 1) s') : ∃ s', sFor kill fi g f ρ = some (.nx (R s')) ∧ Inv l.length s' := by
  rw [x_sFor, hi]
  show ∃ s', loopR _ _ (wipeR ρ1 kill) = _ ∧ _
  rw [h0]
  exact loop_rel enc R Inv l.length l 0 s (by omega) I0 h
theorem iRange_1 {fa : Fe} {ρ ρ1 : Rho} {j : Int} (h : fa ρ = some (.int j, ρ1)) (hn : j ≤ 1000) (h0 : 0 ≤ j) : iRange fa ρ = some ((ev j.toNat).map D.int, ρ1) := by
  rw [x_iRange, h]
  show (if j ≤ 1000 ∧ -1000 ≤ j then some (rangeD 0 j.toNat, ρ1) else none) = _
  rw [if_pos ⟨hn, by omega⟩, rangeD_ev]
theorem row_ok {n : Nat} (hn : 1 ≤ n ∧ n ≤ 4) {S : Strm} (hk : OkS S) : ∃ row S', F_law_row S [.int n, .int 3, .int 20] = some (encW row, S') ∧ OkW n row ∧ OkS S' := by
  obtain ⟨d, S1, f1, r1, k1⟩ := next_ok (m := 4) (by decide) hk
  unfold F_law_row b_law_row
  obtain ⟨⟨S2, row⟩, hf, k2, hl, hrow⟩ := for_rel1 (kill := [5]) (g := gSet 5) (fi := iRange (eCallS 0 1 F_law_next (aCons (e2 gAdd (eName 2) (eC (.int 1))) (aNil))))
    (f := (sCons (sApp 4 (eN gTup (aCons (eCallS 0 1 F_law_next (aCons (eName 1) (aNil))) (aCons (e2 (gI fun i j => i - j) (eCallS 0 1 F_law_next (aCons (e2 gAdd (e2 (gIC cMul fun i j => i * j) (eC (.int 2)) (eName 3)) (eC (.int 1))) (aNil))) (eName 3)) (aNil))))) (sNil)))
    (ρ := [some (.st S), some (.fz (.int n)), some (.fz (.int 3)), some (.fz (.int 20)), some (.ol []), none]) (ev d.toNat) D.int
    (fun s : Strm × List (Int × Int) => [some (.st s.1), some (.fz (.int n)), some (.fz (.int 3)), some (.fz (.int 20)), some (.ol (s.2.map encP)), none])
    (fun k s => OkS s.1 ∧ s.2.length ≤ k ∧ ∀ p ∈ s.2, Rg n p.1 ∧ -20 ≤ p.2 ∧ p.2 ≤ 20) (S1, []) (iRange_1 (by simp [x_eCallS, f1]; rfl) (by omega) (by omega)) (by simp) ⟨k1, by simp, by simp⟩ (fun k s a ha hk hs => by
      obtain ⟨s, row⟩ := s
      obtain ⟨h1, h2, h3⟩ := hs
      obtain ⟨d1, T1, g1, q1, j1⟩ := next_ok (m := n) (by omega) h1
      obtain ⟨d2, T2, g2, q2, j2⟩ := next_ok (m := 41) (by decide) j1
      have hlen : row.length < 1000 := by
        rw [ev_length] at hk
        simp at h2
        omega
      refine ⟨(T2, row ++ [(d1, d2 - 20)]), ?_, j2, by simp at h2 ⊢; omega, fun p hp => ?_⟩
      · have c := mul_v (f := fun i j => i * j) 2 20 (by decide)
        simp [x_eCallS, g1, g2, c, hlen, encP]
      · rcases List.mem_append.mp hp with hp | hp
        · exact h3 p hp
        · rw [List.mem_singleton.mp hp]
          exact ⟨q1, by simp only; omega, by simp only; omega⟩)
  refine ⟨row, S2, run_rs ?_, ⟨?_, hrow⟩, k2⟩
  · refine RetS.nx (ρ1 := [some (.st S), some (.fz (.int n)), some (.fz (.int 3)), some (.fz (.int 20)), some (.ol []), none]) (by simp) (RetS.nx hf ?_)
    simp [RetS, encW]
  · rw [ev_length] at hl
    simp at hl
    omega
theorem good_pot {n : Nat} {first : List Int} {rs : List Rule} (h : ∀ r ∈ rs, GoodR n first r) : Pot (edges rs) (hAt first) := by
  intro e he
  unfold edges at he
  rw [List.mem_flatMap] at he
  obtain ⟨⟨r, k⟩, hr, he⟩ := he
  have hg := h r (List.mem_of_getElem? (zip_get hr))
  obtain ⟨s, e', lo, hi⟩ := r
  cases lo <;> cases hi <;> simp [edR, edHi, edLo] at he
  · subst he
    exact hg.hi _ rfl
  · subst he
    have := hg.lo _ rfl
    simp only at this ⊢
    omega
  · rcases he with rfl | rfl
    · exact hg.hi _ rfl
    · have := hg.lo _ rfl
      simp only at this ⊢
      omega
theorem net_ok {S : Strm} (hk : OkS S) : ∃ n rs first second S', F_law_net S [.int 1, .int 4, .int 6, .int 9] = some (.tup [encN n rs, encI first, encI second], S') ∧ OkN n rs ∧ Pot (edges rs) (hAt first) ∧ OkS S' := by
  obtain ⟨d, S1, f1, r1, k1⟩ := next_ok (m := 4) (by decide) hk
  obtain ⟨n, hn⟩ : ∃ n : Nat, 1 + d = n := ⟨(1 + d).toNat, by omega⟩
  have hn1 : 1 ≤ n ∧ n ≤ 4 := by omega
  unfold F_law_net b_law_net
  obtain ⟨first, S2, ee1, l1, n1, k2⟩ := eComp_rel (vs := [7]) (g := gSet 7) (ft := tYes') (fi := iRange (eName 5)) (fe := (e2 (gI fun i j => i - j) (eCallS 0 1 F_law_next (aCons (e2 gAdd (e2 (gIC cMul fun i j => i * j) (eC (.int 2)) (eName 4)) (eC (.int 1))) (aNil))) (eName 4)))
    (ρ := [some (.st S1), some (.fz (.int 1)), some (.fz (.int 4)), some (.fz (.int 6)), some (.fz (.int 9)), some (.fz (.int n)), none, none, none, none, none, none, none, none]) (ev n) D.int
    (fun S => [some (.st S), some (.fz (.int 1)), some (.fz (.int 4)), some (.fz (.int 6)), some (.fz (.int 9)), some (.fz (.int n)), none, none, none, none, none, none, none, none]) (fun i => -9 ≤ i ∧ i ≤ 9) S1 (iRange_v (by simp) (by omega)) (by simp) k1 (fun S a ha hS => by
      obtain ⟨d1, T1, g1, q1, j1⟩ := next_ok (m := 19) (by decide) hS
      have c := mul_v (f := fun i j => i * j) 2 9 (by decide)
      exact ⟨d1 - 9, T1, by simp [cstep, x_eCallS, c, g1], by omega, j1⟩)
  obtain ⟨second, S3, ee2, l2, n2, k3⟩ := eComp_rel (vs := [9]) (g := gSet 9) (ft := tYes') (fi := iSeq (eName 6)) (fe := (e2 gAdd (eName 9) (e2 (gIC cMul fun i j => i * j) (eCallS 0 1 F_law_next (aCons (e2 gAdd (eName 4) (eC (.int 1))) (aNil))) (e2 (gI fun i j => i - j) (eCallS 0 1 F_law_next (aCons (eC (.int 3)) (aNil))) (eC (.int 1))))))
    (ρ := [some (.st S2), some (.fz (.int 1)), some (.fz (.int 4)), some (.fz (.int 6)), some (.fz (.int 9)), some (.fz (.int n)), some (.fz (encI first)), none, none, none, none, none, none, none]) first D.int
    (fun S => [some (.st S), some (.fz (.int 1)), some (.fz (.int 4)), some (.fz (.int 6)), some (.fz (.int 9)), some (.fz (.int n)), some (.fz (encI first)), none, none, none, none, none, none, none]) (fun i => -18 ≤ i ∧ i ≤ 18) S2 (by simp [encI]) (by simp) k2 (fun S a ha hS => by
      obtain ⟨d1, T1, g1, q1, j1⟩ := next_ok (m := 10) (by decide) hS
      obtain ⟨d2, T2, g2, q2, j2⟩ := next_ok (m := 3) (by decide) j1
      have c := mul_v (f := fun i j => i * j) d1 (d2 - 1) (by omega)
      have ha' := n1 a ha
      have : d2 - 1 = -1 ∨ d2 - 1 = 0 ∨ d2 - 1 = 1 := by omega
      refine ⟨a + d1 * (d2 - 1), T2, by simp [cstep, x_eCallS, c, g1, g2], ?_, j2⟩
      rcases this with z | z | z <;> rw [z] <;> omega)
  rw [ev_length] at l1
  have l2' : second.length = n := by rw [l2, l1]
  obtain ⟨d4, S4, f4, r4, k4⟩ := next_ok (m := 7) (by decide) k3
  obtain ⟨⟨S5, rs⟩, hf, k5, hl, hrs⟩ := for_rel1 (kill := [11, 12, 13]) (g := gSet 11) (fi := iRange (eCallS 0 1 F_law_next (aCons (e2 gAdd (eName 3) (eC (.int 1))) (aNil))))
    (f := (sCons (sIf (tBl (e2 (gB fun i j => decide (j < i)) (eName 5) (eC (.int 1)))) (sCons (sSet 12 (eCallS 0 1 F_law_next (aCons (eName 5) (aNil)))) (sCons (sSet 13 (eCallS 0 1 F_law_next (aCons (e2 (gI fun i j => i - j) (eName 5) (eC (.int 1))) (aNil)))) (sCons (sApp 10 (eCallS 0 4 F_law_gap (aCons (eName 12) (aCons (e2 gAdd (eName 13) (eN gInt (aCons (e2 (gB fun i j => decide (j ≤ i)) (eName 13) (eName 12)) (aNil)))) (aCons (eName 6) (aCons (eName 8) (aNil))))))) (sNil)))) (sNil)) (sNil)))
    (ρ := [some (.st S3), some (.fz (.int 1)), some (.fz (.int 4)), some (.fz (.int 6)), some (.fz (.int 9)), some (.fz (.int n)), some (.fz (encI first)), none, some (.fz (encI second)), none, some (.ol []), none, none, none]) (ev d4.toNat) D.int
    (fun s : Strm × List Rule => [some (.st s.1), some (.fz (.int 1)), some (.fz (.int 4)), some (.fz (.int 6)), some (.fz (.int 9)), some (.fz (.int n)), some (.fz (encI first)), none, some (.fz (encI second)), none, some (.ol (s.2.map encR)), none, none, none])
    (fun k s => OkS s.1 ∧ s.2.length ≤ k ∧ ∀ r ∈ s.2, GoodR n first r) (S4, []) (iRange_1 (by simp [x_eCallS, f4]; rfl) (by omega) (by omega)) (by simp) ⟨k4, by simp, by simp⟩ (fun k s a ha hk hs => by
      obtain ⟨s, rs⟩ := s
      obtain ⟨h1, h2, h3⟩ := hs
      simp only at h1 h2 h3
      by_cases hbig : (1 : Int) < n
      · obtain ⟨d1, T1, g1, q1, j1⟩ := next_ok (m := n) (by omega) h1
        obtain ⟨d2, T2, g2, q2, j2⟩ := next_ok (m := (n : Int) - 1) (by omega) j1
        have hlen : rs.length < 1000 := by
          rw [ev_length] at hk
          omega
        have hx : ∃ x : Int, x = d2 + (if d1 ≤ d2 then 1 else 0) ∧ Rg n x ∧ d1 ≠ x := by
          refine ⟨_, rfl, ?_, ?_⟩
          · unfold Rg
            split <;> omega
          · split <;> omega
        obtain ⟨x, hx0, hx1, hx2⟩ := hx
        obtain ⟨r, T3, g3, q3, j3⟩ := gap_ok (n := n) j2 l1 l2' n1 n2 q1 hx1 hx2
        refine ⟨(T3, rs ++ [r]), ?_, j3, by simp; omega, fun p hp => ?_⟩
        · by_cases hc : d1 ≤ d2
          · simp [hc] at hx0
            rw [hx0] at g3
            simp [x_eCallS, g1, g2, hbig, hc, hlen]
            simp [encI, g3, hlen]
          · simp [hc] at hx0
            rw [hx0] at g3
            simp [x_eCallS, g1, g2, hbig, hc, hlen]
            simp [encI, g3, hlen]
        · rcases List.mem_append.mp hp with hp | hp
          · exact h3 p hp
          · rw [List.mem_singleton.mp hp]
            exact q3
      · refine ⟨(s, rs), by simp [hbig], h1, by simp only; omega, h3⟩)
  refine ⟨n, rs, first, second, S5, run_rs ?_, ⟨hn1.1, hn1.2, ?_, fun r hr => (hrs r hr).ok⟩, good_pot hrs, k5⟩
  · refine RetS.nx (ρ1 := [some (.st S1), some (.fz (.int 1)), some (.fz (.int 4)), some (.fz (.int 6)), some (.fz (.int 9)), some (.fz (.int n)), none, none, none, none, none, none, none, none]) (by simp [x_eCallS, f1, hn]) ?_
    refine RetS.nx (ρ1 := [some (.st S2), some (.fz (.int 1)), some (.fz (.int 4)), some (.fz (.int 6)), some (.fz (.int 9)), some (.fz (.int n)), some (.fz (encI first)), none, none, none, none, none, none, none]) (sSet_v (eN_v (a1_v ee1) rfl)) ?_
    refine RetS.nx (ρ1 := [some (.st S3), some (.fz (.int 1)), some (.fz (.int 4)), some (.fz (.int 6)), some (.fz (.int 9)), some (.fz (.int n)), some (.fz (encI first)), none, some (.fz (encI second)), none, none, none, none, none]) (sSet_v (eN_v (a1_v ee2) rfl)) ?_
    refine RetS.nx (ρ1 := [some (.st S3), some (.fz (.int 1)), some (.fz (.int 4)), some (.fz (.int 6)), some (.fz (.int 9)), some (.fz (.int n)), some (.fz (encI first)), none, some (.fz (encI second)), none, some (.ol []), none, none, none]) (by simp) (RetS.nx hf ?_)
    simp [RetS, encN]
  · rw [ev_length] at hl
    simp at hl
    omega
end Kx
set_option Elab.async false
set_option linter.all false
set_option maxRecDepth 100000
set_option maxHeartbeats 4000000
/-! the turned evidence is plain -/
namespace Kx
open PySem PySem.Spec PyProof.Rows L2
theorem strOk_of (s : String) : PyData.strOk (Str.ofString s) = true := by
  unfold PyData.strOk Str.ofString
  rw [cpsOfBytes_string]
  simp only [List.all_toArray, List.all_map, List.all_eq_true]
  intro c _
  have h := c.valid
  simp only [UInt32.isValidChar, Nat.isValidChar] at h
  have ht : c.toNat = c.val.toNat := rfl
  simp only [Function.comp, decide_eq_true_eq, ht]
  omega
theorem pl_cut {ds : List D} (h : PlA ds = true) (lo hi : Option Int) : PlA (cutD ds lo hi) = true ∧ (cutD ds lo hi).length ≤ ds.length := by
  unfold cutD
  refine ⟨PlA_iff.mpr fun d hd => PlA_iff.mp h d (List.mem_of_mem_drop (List.mem_of_mem_take hd)), ?_⟩
  rw [List.length_take, List.length_drop]
  omega
theorem pl_app {xs ys : List D} (h : PlA xs = true) (h2 : PlA ys = true) : PlA (xs ++ ys) = true :=
  PlA_iff.mpr fun d hd => (List.mem_append.mp hd).elim (PlA_iff.mp h d) (PlA_iff.mp h2 d)
theorem pl_rev {xs : List D} (h : PlA xs = true) : PlA xs.reverse = true :=
  PlA_iff.mpr fun d hd => PlA_iff.mp h d (List.mem_reverse.mp hd)
theorem pl_one {d : D} (h : Pl d = true) : PlA [d] = true := by
  simp [PlA, h]
theorem pl_int (i : Int) : Pl (.int i) = true := by simp [Pl]
theorem pl_non : Pl .non = true := by simp [Pl]
theorem pl_bl (b : Bool) : Pl (.bl b) = true := by simp [Pl]
theorem pl_encI {l : List Int} (h : l.length ≤ 900) : Pl (encI l) = true := by
  refine plMk (by rw [List.length_map]; exact h) (PlA_iff.mpr fun d hd => ?_)
  obtain ⟨i, _, rfl⟩ := List.mem_map.mp hd
  exact pl_int i
theorem pl_encO (o : Option Int) : Pl (encO o) = true := by
  cases o <;> simp [Pl, encO]
theorem pl_encK (e : Ed) : Pl (encK e) = true := by
  have := e.sdOk
  simp [Pl, PlA, encK, this]
theorem pickL {l : List D} {d : Int} (h : 0 ≤ d ∧ d < l.length) (hp : PlA l = true) : ∃ x, atI l d = some x ∧ Pl x = true := by
  have hlt : d.toNat < l.length := by omega
  exact ⟨l[d.toNat], by rw [atI_of _ h.1, List.getElem?_eq_getElem hlt], PlA_iff.mp hp _ (List.getElem_mem hlt)⟩
theorem idx3 {L : Nat} (hL : 1 ≤ L) {d : Int} (h : 0 ≤ d ∧ d < 3) : ∃ a : Int, atI [D.int 0, .int ((L : Int) / 2), .int ((L : Int) - 1)] d = some (.int a) ∧ 0 ≤ a ∧ a < L := by
  have : d = 0 ∨ d = 1 ∨ d = 2 := by omega
  rcases this with rfl | rfl | rfl
  · exact ⟨0, rfl, by omega, by omega⟩
  · exact ⟨_, rfl, by omega, by omega⟩
  · exact ⟨_, rfl, by omega, by omega⟩
/-! ### heights -/
def Near9 (l : List Int) : Prop := ∀ x ∈ l, -1000 ≤ x ∧ x ≤ 1000
theorem str_v {i : Int} (h : -1000 ≤ i ∧ i ≤ 1000) : gStr [.int i] = some (.str (Str.ofString (toString i))) := by
  have : i.natAbs.log2 < 1920 := by
    have h2 : i.natAbs < 2 ^ 10 := by omega
    by_cases h0 : i.natAbs = 0
    · rw [h0]
      decide
    · have := (Nat.log2_lt h0).mpr h2
      omega
  unfold gStr
  simp only
  rw [if_pos this]
theorem heights_ok {S : Strm} (hk : OkS S) {hs : List Int} (h1 : 1 ≤ hs.length) (h9 : hs.length ≤ 9) (hn : Near9 hs) : ∃ d S', F_law_turned_heights S [encI hs] = some (d, S') ∧ Pl d = true ∧ OkS S' := by
  obtain ⟨d1, S1, f1, r1, k1⟩ := next_ok (m := 3) (by decide) hk
  obtain ⟨d2, S2, f2, r2, k2⟩ := next_ok (m := 13) (by decide) k1
  obtain ⟨a, q1, a0, a1⟩ := idx3 h1 r1
  obtain ⟨t, ht, tn⟩ : ∃ t, atI (hs.map D.int) a = some (.int t) ∧ (-1000 ≤ t ∧ t ≤ 1000) := by
    refine ⟨_, hAt_ix (n := hs.length) rfl ⟨a0, a1⟩, ?_⟩
    have hlt : a.toNat < hs.length := by omega
    have := hn (hs[a.toNat]) (List.getElem_mem hlt)
    simpa [hAt, List.getD, List.getElem?_eq_getElem hlt] using this
  have sv := str_v tn
  have hp : PlA (hs.map D.int) = true := (plTup (pl_encI (l := hs) (by omega))).2
  have hml : (hs.map D.int).length = hs.length := List.length_map _
  obtain ⟨pA, lA⟩ := pl_cut hp none (some a)
  obtain ⟨pE, lE⟩ := pl_cut hp (some (a + 1)) none
  obtain ⟨pF, lF⟩ := pl_cut hp (some 1) none
  unfold F_law_turned_heights b_law_turned_heights
  generalize hA : cutD (hs.map D.int) none (some a) = A at *
  generalize hE : cutD (hs.map D.int) (some (a + 1)) none = E at *
  generalize hF : cutD (hs.map D.int) (some 1) none = Fl at *
  generalize hstr : Str.ofString (toString t) = st at *
  have hst : PyData.strOk st = true := by
    rw [← hstr]
    exact strOk_of _
  have e0 : ∃ ρ', RetS (sCons (sIf (tBl (e2 (gB fun i j => decide (i < j)) (eName 5) (eC (.int 5)))) (sCons (sRet (e2 gIx (eN gLst (aCons (eC .non) (aCons (eN gLstOf (aCons (eName 1) (aNil))) (aCons (eSl (eName 1) (oSome (eC (.int 1))) (oNone)) (aCons (e2 gAdd (eName 1) (eN gTup (aCons (eC (.int 0)) (aNil)))) (aCons (eN gTupOf (aCons (eComp [6] (iSeq (eName 1)) (gSet 6) (tYes') (e2 gAdd (eName 6) (eC (.int 3)))) (aNil))) (aNil))))))) (eName 5))) (sNil)) (sNil)) (sCons (sRet (e2 gAdd (e2 gAdd (eSl (eName 1) (oNone) (oSome (eName 2))) (eN gTup (aCons (e2 gIx (eName 4) (e2 (gI fun i j => i - j) (eName 5) (eC (.int 5)))) (aNil)))) (eSl (eName 1) (oSome (e2 gAdd (eName 2) (eC (.int 1)))) (oNone)))) (sNil))
      [some (.st S2), some (.fz (encI hs)), some (.fz (.int a)), some (.fz (.int t)), some (.fz (.lst [.int (t + 1), .int (t - 1), .int (t + 7), .int (t - 7), .non, .bl true, .str st, .int t])), some (.fz (.int d2)), none]) ρ' S2 ∧ Pl ρ' = true := by
    by_cases hc : d2 < 5
    · have c := eComp_map (vs := [6]) (g := gSet 6) (ft := tYes') (fi := iSeq (eName 1)) (fe := e2 gAdd (eName 6) (eC (.int 3))) (ρ := [some (.st S2), some (.fz (encI hs)), some (.fz (.int a)), some (.fz (.int t)), some (.fz (.lst [.int (t + 1), .int (t - 1), .int (t + 7), .int (t - 7), .non, .bl true, .str st, .int t])), some (.fz (.int d2)), none]) hs D.int (fun x => .int (x + 3)) _ (by simp [encI]) rfl (fun x hx => by simp [cstep])
      have pG : PlA (hs.map fun x => D.int (x + 3)) = true := PlA_iff.mpr fun d hd => by
        obtain ⟨i, _, rfl⟩ := List.mem_map.mp hd
        exact pl_int _
      obtain ⟨x, hx, px⟩ := pickL (l := [.non, .lst (hs.map D.int), .tup Fl, .tup (hs.map D.int ++ [.int 0]), .tup (hs.map fun x => D.int (x + 3))]) (d := d2) (by simp; omega)
        (by simp [PlA, pl_non, plMkl (show (hs.map D.int).length ≤ 900 by omega) hp, plMk (show Fl.length ≤ 900 by omega) pF, plMk (ds := hs.map D.int ++ [.int 0]) (by simp; omega) (pl_app hp (pl_one (pl_int 0))), plMk (ds := hs.map fun x => D.int (x + 3)) (by simp; omega) pG])
      refine ⟨x, RetS.rt ?_, px⟩
      have lx : hs.length + 1 ≤ 1000 := by omega
      simp [encI] at c
      simp [RetS, hc, encI, c, hF, hx, lx]
    · obtain ⟨x, hx, px⟩ := pickL (l := [.int (t + 1), .int (t - 1), .int (t + 7), .int (t - 7), .non, .bl true, .str st, .int t]) (d := d2 - 5) (by simp; omega) (by simp [PlA, pl_non, pl_int, pl_bl, Pl, hst])
      have lx : A.length + 1 ≤ 1000 := by omega
      have ly : A.length + 1 + E.length ≤ 1000 := by omega
      refine ⟨.tup (A ++ (x :: E)), ?_, plMk (by simp; omega) (pl_app pA (by simp [PlA, px, pE]))⟩
      simp [RetS, hc, encI, hA, hE, hx, lx, ly]
  obtain ⟨d, hd, pd⟩ := e0
  refine ⟨d, S2, run_rs ?_, pd, k2⟩
  refine RetS.nx (ρ1 := [some (.st S1), some (.fz (encI hs)), some (.fz (.int a)), none, none, none, none]) (by simp [x_eCallS, encI, f1, q1]) (RetS.nx (ρ1 := [some (.st S1), some (.fz (encI hs)), some (.fz (.int a)), some (.fz (.int t)), none, none, none]) (by simp [encI, ht])
    (RetS.nx (ρ1 := [some (.st S1), some (.fz (encI hs)), some (.fz (.int a)), some (.fz (.int t)), some (.fz (.lst [.int (t + 1), .int (t - 1), .int (t + 7), .int (t - 7), .non, .bl true, .str st, .int t])), none, none]) (by simp [sv]) (RetS.nx (ρ1 := [some (.st S2), some (.fz (encI hs)), some (.fz (.int a)), some (.fz (.int t)), some (.fz (.lst [.int (t + 1), .int (t - 1), .int (t + 7), .int (t - 7), .non, .bl true, .str st, .int t])), some (.fz (.int d2)), none]) (by simp [x_eCallS, f2]) hd)))
/-! ### walks -/
theorem walk_ok {S : Strm} (hk : OkS S) {w : List Ed} (h9 : w.length ≤ 9) : ∃ d S', F_law_turned_walk S [.tup (w.map encK)] = some (d, S') ∧ Pl d = true ∧ OkS S' := by
  have hp : PlA (w.map encK) = true := PlA_iff.mpr fun d hd => by
    obtain ⟨e, _, rfl⟩ := List.mem_map.mp hd
    exact pl_encK e
  have hml : (w.map encK).length = w.length := List.length_map _
  unfold F_law_turned_walk b_law_turned_walk
  by_cases hw : w = []
  · subst hw
    obtain ⟨d1, S1, f1, r1, k1⟩ := next_ok (m := 5) (by decide) hk
    obtain ⟨x, hx, px⟩ := pickL (l := [.non, .lst [], .tup [.tup [.int 0, .str "low"]], .tup [.tup [.int 0, .str "high"]], .tup []]) (d := d1) (by simp; omega) (by simp [PlA, Pl, strOk_low, strOk_high])
    refine ⟨x, S1, run_rs (RetS.rt ?_), px, k1⟩
    simp [RetS, x_eCallS, f1, hx]
  · have h1 : 1 ≤ w.length := by
      have := List.length_pos_iff.mpr hw
      omega
    obtain ⟨d1, S1, f1, r1, k1⟩ := next_ok (m := 3) (by decide) hk
    obtain ⟨d2, S2, f2, r2, k2⟩ := next_ok (m := 14) (by decide) k1
    obtain ⟨a, q1, a0, a1⟩ := idx3 h1 r1
    obtain ⟨e, he⟩ : ∃ e, atI (w.map encK) a = some (encK e) := by
      have hlt : a.toNat < w.length := by omega
      exact ⟨w[a.toNat], by rw [atI_of _ a0, List.getElem?_map, List.getElem?_eq_getElem hlt]; rfl⟩
    obtain ⟨pA, lA⟩ := pl_cut hp none (some a)
    obtain ⟨pE, lE⟩ := pl_cut hp (some (a + 1)) none
    obtain ⟨pF, lF⟩ := pl_cut hp (some a) (some (a + 1))
    obtain ⟨pG, lG⟩ := pl_cut hp (some a) none
    generalize hA : cutD (w.map encK) none (some a) = A at *
    generalize hE : cutD (w.map encK) (some (a + 1)) none = E at *
    generalize hF : cutD (w.map encK) (some a) (some (a + 1)) = Fl at *
    generalize hG : cutD (w.map encK) (some a) none = G at *
    obtain ⟨ix, hi, ea, eb, ew⟩ := e
    have sok : PyData.strOk (Ed.sd ⟨ix, hi, ea, eb, ew⟩) = true := Ed.sdOk _
    simp only [encK] at he
    generalize Ed.sd ⟨ix, hi, ea, eb, ew⟩ = sd at he sok
    obtain ⟨o1, ho1, po1⟩ : ∃ o1, (∃ b : Bool, gEqv false (.str sd) (.str "low") = some (.bl b) ∧ atI [D.str "low", .str "high"] (if b = true then 1 else 0) = some (.str o1)) ∧ PyData.strOk o1 = true := by
      have := eqSS false sd "low" sok strOk_low
      simp at this
      cases hb : (sd == ("low" : Str)) with
      | true => exact ⟨"high", ⟨true, by rw [this, hb], rfl⟩, strOk_high⟩
      | false => exact ⟨"low", ⟨false, by rw [this, hb], rfl⟩, strOk_low⟩
    obtain ⟨b, hb1, hb2⟩ := ho1
    have oth : sSet 5 (eN gLst (aCons (eN gTup (aCons (eName 3) (aCons (e2 gIx (eN gLst (aCons (eC (.str "low")) (aCons (eC (.str "high")) (aNil)))) (eN gInt (aCons (e2 (gEqv false) (eName 4) (eC (.str "low"))) (aNil)))) (aNil)))) (aCons (eN gTup (aCons (e2 gAdd (eName 3) (eC (.int 1))) (aCons (eName 4) (aNil)))) (aCons (eN gTup (aCons (e2 (gI fun i j => i - j) (eName 3) (eC (.int 1))) (aCons (eName 4) (aNil)))) (aCons (eN gTup (aCons (eC (.bl true)) (aCons (eName 4) (aNil)))) (aCons (eN gLst (aCons (eName 3) (aCons (eName 4) (aNil)))) (aCons (eN gTup (aCons (eName 3) (aNil))) (aCons (eN gTup (aCons (eName 3) (aCons (eC .non) (aNil)))) (aNil)))))))))
        [some (.st S1), some (.fz (.tup (w.map encK))), some (.fz (.int a)), some (.fz (.int ix)), some (.fz (.str sd)), none, none, none] = some (.nx [some (.st S1), some (.fz (.tup (w.map encK))), some (.fz (.int a)), some (.fz (.int ix)), some (.fz (.str sd)), some (.fz (.lst [.tup [.int ix, .str o1], .tup [.int (ix + 1), .str sd], .tup [.int (ix - 1), .str sd], .tup [.bl true, .str sd], .lst [.int ix, .str sd], .tup [.int ix], .tup [.int ix, .non]])), none, none]) := by
      cases b with
      | true =>
        simp only [if_true] at hb2
        simp [hb1, hb2]
      | false =>
        simp only [Bool.false_eq_true, if_false] at hb2
        simp [hb1, hb2]
    have l1 : A.length + E.length ≤ 1000 := by omega
    have l2 : A.length + Fl.length ≤ 1000 := by omega
    have l3 : A.length + Fl.length + G.length ≤ 1000 := by omega
    have l4 : A.length + 1 ≤ 1000 := by omega
    have l5 : A.length + 1 + E.length ≤ 1000 := by omega
    have fin : ∃ d, RetS (sCons (sIf (tBl (e2 (gB fun i j => decide (i < j)) (eName 7) (eC (.int 7)))) (sCons (sRet (e2 gIx (eName 6) (eName 7))) (sNil)) (sNil)) (sCons (sRet (e2 gAdd (e2 gAdd (eSl (eName 1) (oNone) (oSome (eName 2))) (eN gTup (aCons (e2 gIx (eName 5) (e2 (gI fun i j => i - j) (eName 7) (eC (.int 7)))) (aNil)))) (eSl (eName 1) (oSome (e2 gAdd (eName 2) (eC (.int 1)))) (oNone)))) (sNil))
        [some (.st S2), some (.fz (.tup (w.map encK))), some (.fz (.int a)), some (.fz (.int ix)), some (.fz (.str sd)), some (.fz (.lst [.tup [.int ix, .str o1], .tup [.int (ix + 1), .str sd], .tup [.int (ix - 1), .str sd], .tup [.bl true, .str sd], .lst [.int ix, .str sd], .tup [.int ix], .tup [.int ix, .non]])), some (.fz (.lst [.non, .lst (w.map encK), .tup (A ++ E), .tup (A ++ Fl ++ G), .tup (w.map encK).reverse, .tup [], .tup (w.map encK)])), some (.fz (.int d2))]) d S2 ∧ Pl d = true := by
      by_cases hc : d2 < 7
      · obtain ⟨x, hx, px⟩ := pickL (l := [.non, .lst (w.map encK), .tup (A ++ E), .tup (A ++ Fl ++ G), .tup (w.map encK).reverse, .tup [], .tup (w.map encK)]) (d := d2) (by simp; omega)
          (by simp only [PlA, pl_non, plMkl (show (w.map encK).length ≤ 900 by omega) hp, plMk (ds := A ++ E) (by simp; omega) (pl_app pA pE), plMk (ds := A ++ Fl ++ G) (by simp; omega) (pl_app (pl_app pA pF) pG), plMk (ds := (w.map encK).reverse) (by simp; omega) (pl_rev hp), plMk (ds := []) (by simp) rfl, plMk (show (w.map encK).length ≤ 900 by omega) hp, Bool.and_self])
        refine ⟨x, RetS.rt ?_, px⟩
        simp at hx
        simp [RetS, hc, hx]
      · obtain ⟨x, hx, px⟩ := pickL (l := [.tup [.int ix, .str o1], .tup [.int (ix + 1), .str sd], .tup [.int (ix - 1), .str sd], .tup [.bl true, .str sd], .lst [.int ix, .str sd], .tup [.int ix], .tup [.int ix, .non]]) (d := d2 - 7) (by simp; omega) (by simp [PlA, Pl, sok, po1])
        refine ⟨.tup (A ++ (x :: E)), ?_, plMk (by simp; omega) (pl_app pA (by simp [PlA, px, pE]))⟩
        simp [RetS, hc, hA, hE, hx, l4, l5]
    obtain ⟨d, hd, pd⟩ := fin
    refine ⟨d, S2, run_rs ?_, pd, k2⟩
    have hne : w.isEmpty = false := by
      cases w with
      | nil => exact absurd rfl hw
      | cons a b => rfl
    refine RetS.nx (ρ1 := [some (.st S), some (.fz (.tup (w.map encK))), none, none, none, none, none, none]) (by simp [hne]) (RetS.nx (ρ1 := [some (.st S1), some (.fz (.tup (w.map encK))), some (.fz (.int a)), none, none, none, none, none]) (by simp [x_eCallS, f1, q1]) (RetS.nx (ρ1 := [some (.st S1), some (.fz (.tup (w.map encK))), some (.fz (.int a)), some (.fz (.int ix)), some (.fz (.str sd)), none, none, none]) (by simp [he]) (RetS.nx oth
      (RetS.nx (ρ1 := [some (.st S1), some (.fz (.tup (w.map encK))), some (.fz (.int a)), some (.fz (.int ix)), some (.fz (.str sd)), some (.fz (.lst [.tup [.int ix, .str o1], .tup [.int (ix + 1), .str sd], .tup [.int (ix - 1), .str sd], .tup [.bl true, .str sd], .lst [.int ix, .str sd], .tup [.int ix], .tup [.int ix, .non]])), some (.fz (.lst [.non, .lst (w.map encK), .tup (A ++ E), .tup (A ++ Fl ++ G), .tup (w.map encK).reverse, .tup [], .tup (w.map encK)])), none]) ?_
      (RetS.nx (ρ1 := [some (.st S2), some (.fz (.tup (w.map encK))), some (.fz (.int a)), some (.fz (.int ix)), some (.fz (.str sd)), some (.fz (.lst [.tup [.int ix, .str o1], .tup [.int (ix + 1), .str sd], .tup [.int (ix - 1), .str sd], .tup [.bl true, .str sd], .lst [.int ix, .str sd], .tup [.int ix], .tup [.int ix, .non]])), some (.fz (.lst [.non, .lst (w.map encK), .tup (A ++ E), .tup (A ++ Fl ++ G), .tup (w.map encK).reverse, .tup [], .tup (w.map encK)])), some (.fz (.int d2))]) (by simp [x_eCallS, f2]) hd)))))
    simp [hA, hE, hF, hG, l1, l2, l3]
end Kx
set_option Elab.async false
set_option linter.all false
set_option maxRecDepth 100000
set_option maxHeartbeats 4000000
/-! the turned bounds, the turned value -/
namespace Kx
open PySem PySem.Spec PyProof.Rows L2
@[simp] theorem x_neg (i : Int) : gNeg (.int i) = some (.int (-i)) := rfl
def Bd (b : D) : Prop := Pl b = true ∧ ∀ S, OkS S → ∃ d S', F_law_turned_bound S [b] = some (d, S') ∧ Pl d = true ∧ OkS S'
theorem plTup2 {a b : D} (h : Pl a = true) (h2 : Pl b = true) : Pl (.tup [a, b]) = true := by
  simp [Pl, PlA, h, h2]
theorem strOk_0 : PyData.strOk ("0" : Str) = true := by decide +kernel
theorem tb_zero {S S1 S2 : Strm} {d1 d2 : Int} {num f s : D} (f1 : F_law_next S [.int 8] = some (.int d1, S1)) (c : d1 = 0) (f2 : F_law_next S1 [.int 7] = some (.int d2, S2)) (r2 : 0 ≤ d2 ∧ d2 < 7) (p1 : Pl num = true) (p2 : Pl f = true) (p3 : Pl s = true) :
    ∃ d, F_law_turned_bound S [.tup [num, .tup [f, s]]] = some (d, S2) ∧ Pl d = true := by
  obtain ⟨x, hx, px⟩ := pickL (l := [.non, .tup [num], .lst [num, .tup [f, s]], .tup [.tup [f, s], num], .tup [num, .non], .tup [num, .lst [f, s]], .tup [num, .tup [f]]]) (d := d2) (by simp; omega) (by simp [PlA, Pl, p1, p2, p3])
  refine ⟨x, ?_, px⟩
  unfold F_law_turned_bound b_law_turned_bound
  refine run_rs ?_
  simp [RetS, x_eCallS, f1, c, f2, hx]
theorem tb_one {S S1 S2 : Strm} {d1 d2 : Int} {num f s : D} (f1 : F_law_next S [.int 8] = some (.int d1, S1)) (c : d1 = 1) (f2 : F_law_next S1 [.int 6] = some (.int d2, S2)) (r2 : 0 ≤ d2 ∧ d2 < 6) (p1 : Pl num = true) (p2 : Pl f = true) (p3 : Pl s = true) :
    ∃ d, F_law_turned_bound S [.tup [num, .tup [f, s]]] = some (d, S2) ∧ Pl d = true := by
  obtain ⟨x, hx, px⟩ := pickL (l := [.int 0, .non, .int 5, .int (-5), .bl true, .str "0"]) (d := d2) (by simp; omega) (by simp [PlA, Pl, strOk_0])
  refine ⟨.tup [x, .tup [f, s]], ?_, plTup2 px (plTup2 p2 p3)⟩
  unfold F_law_turned_bound b_law_turned_bound
  refine run_rs ?_
  simp [RetS, x_eCallS, f1, c, f2, hx]
theorem bd_non {hs xs : List Int} (h1 : 1 ≤ hs.length) (h9 : hs.length ≤ 9) (hn : Near9 hs) (x9 : xs.length ≤ 9) : Bd (.tup [.non, .tup [encI hs, encI xs]]) := by
  have ph := pl_encI (l := hs) (by omega)
  have px := pl_encI (l := xs) (by omega)
  refine ⟨plTup2 pl_non (plTup2 ph px), fun S hk => ?_⟩
  obtain ⟨d1, S1, f1, r1, k1⟩ := next_ok (m := 8) (by decide) hk
  by_cases c0 : d1 = 0
  · obtain ⟨d2, S2, f2, r2, k2⟩ := next_ok (m := 7) (by decide) k1
    obtain ⟨d, e, p⟩ := tb_zero f1 c0 f2 r2 pl_non ph px
    exact ⟨d, S2, e, p, k2⟩
  · by_cases c1 : d1 = 1
    · obtain ⟨d2, S2, f2, r2, k2⟩ := next_ok (m := 6) (by decide) k1
      obtain ⟨d, e, p⟩ := tb_one f1 c1 f2 r2 pl_non ph px
      exact ⟨d, S2, e, p, k2⟩
    · unfold F_law_turned_bound b_law_turned_bound
      by_cases c5 : d1 < 5
      · obtain ⟨d2, S2, f2, p2, k2⟩ := heights_ok k1 h1 h9 hn
        refine ⟨.tup [.non, .tup [d2, encI xs]], S2, run_rs ?_, plTup2 pl_non (plTup2 p2 px), k2⟩
        simp [RetS, x_eCallS, f1, c0, c1, c5, f2]
      · by_cases c7 : d1 < 7
        · obtain ⟨d2, S2, f2, r2, k2⟩ := next_ok (m := 9) (by decide) k1
          have hp := (plTup px).2
          have hml : (xs.map D.int).length = xs.length := List.length_map _
          obtain ⟨pA, lA⟩ := pl_cut hp (some 1) none
          obtain ⟨pE, lE⟩ := pl_cut hp none (some (-1))
          generalize hA : cutD (xs.map D.int) (some 1) none = A at *
          generalize hE : cutD (xs.map D.int) none (some (-1)) = E at *
          obtain ⟨x, hx, px'⟩ := pickL (l := [.non, .lst (xs.map D.int), .tup A, .tup E, .tup (xs.map D.int).reverse, .tup [], .tup (xs.map D.int ++ [.int 9]), .tup [.int 0], .tup [.int 1]]) (d := d2) (by simp; omega)
            (by simp only [PlA, pl_non, plMkl (show (xs.map D.int).length ≤ 900 by omega) hp, plMk (show A.length ≤ 900 by omega) pA, plMk (show E.length ≤ 900 by omega) pE, plMk (ds := (xs.map D.int).reverse) (by simp; omega) (pl_rev hp), plMk (ds := []) (by simp) rfl, plMk (ds := xs.map D.int ++ [.int 9]) (by simp; omega) (pl_app hp (pl_one (pl_int 9))), plMk (ds := [.int 0]) (by simp) (pl_one (pl_int 0)), plMk (ds := [.int 1]) (by simp) (pl_one (pl_int 1)), Bool.and_self])
          refine ⟨.tup [.non, .tup [encI hs, x]], S2, run_rs ?_, plTup2 pl_non (plTup2 ph px'), k2⟩
          have lx : xs.length + 1 ≤ 1000 := by omega
          simp [RetS, x_eCallS, f1, c0, c1, c5, c7, f2, encI, hA, hE, lx, hx]
        · refine ⟨.tup [.non, .tup [encI hs, encI xs]], S1, run_rs ?_, plTup2 pl_non (plTup2 ph px), k1⟩
          simp [RetS, x_eCallS, f1, c0, c1, c5, c7]
theorem bd_int {i : Int} {w : List Ed} {hs : List Int} (h1 : 1 ≤ hs.length) (h9 : hs.length ≤ 9) (hn : Near9 hs) (w9 : w.length ≤ 9) : Bd (.tup [.int i, .tup [.tup (w.map encK), encI hs]]) := by
  have ph := pl_encI (l := hs) (by omega)
  have pw : Pl (.tup (w.map encK)) = true := plMk (by simp; omega) (PlA_iff.mpr fun d hd => by
    obtain ⟨e, _, rfl⟩ := List.mem_map.mp hd
    exact pl_encK e)
  refine ⟨plTup2 (pl_int i) (plTup2 pw ph), fun S hk => ?_⟩
  obtain ⟨d1, S1, f1, r1, k1⟩ := next_ok (m := 8) (by decide) hk
  by_cases c0 : d1 = 0
  · obtain ⟨d2, S2, f2, r2, k2⟩ := next_ok (m := 7) (by decide) k1
    obtain ⟨d, e, p⟩ := tb_zero f1 c0 f2 r2 (pl_int i) pw ph
    exact ⟨d, S2, e, p, k2⟩
  · by_cases c1 : d1 = 1
    · obtain ⟨d2, S2, f2, r2, k2⟩ := next_ok (m := 6) (by decide) k1
      obtain ⟨d, e, p⟩ := tb_one f1 c1 f2 r2 (pl_int i) pw ph
      exact ⟨d, S2, e, p, k2⟩
    · unfold F_law_turned_bound b_law_turned_bound
      by_cases c5 : d1 < 5
      · obtain ⟨d2, S2, f2, p2, k2⟩ := walk_ok k1 w9
        refine ⟨.tup [.int i, .tup [d2, encI hs]], S2, run_rs ?_, plTup2 (pl_int i) (plTup2 p2 ph), k2⟩
        simp [RetS, x_eCallS, f1, c0, c1, c5, f2]
      · by_cases c7 : d1 < 7
        · obtain ⟨d2, S2, f2, p2, k2⟩ := heights_ok k1 h1 h9 hn
          refine ⟨.tup [.int i, .tup [.tup (w.map encK), d2]], S2, run_rs ?_, plTup2 (pl_int i) (plTup2 pw p2), k2⟩
          simp [RetS, x_eCallS, f1, c0, c1, c5, c7, f2]
        · refine ⟨.tup [.int i, .tup [.tup (w.map encK), encI hs]], S1, run_rs ?_, plTup2 (pl_int i) (plTup2 pw ph), k1⟩
          simp [RetS, x_eCallS, f1, c0, c1, c5, c7]
theorem turned_ok {S : Strm} (hk : OkS S) {vs : List D} (h9 : vs.length ≤ 9) (hv : ∀ v ∈ vs, ∃ b a, v = .tup [b, a] ∧ Bd b ∧ Bd a) : ∃ d S', F_law_turned S [.tup vs] = some (d, S') ∧ Pl d = true ∧ OkS S' := by
  have hp : PlA vs = true := PlA_iff.mpr fun v h => by
    obtain ⟨b, a, rfl, hb, ha⟩ := hv v h
    exact plTup2 hb.1 ha.1
  obtain ⟨d1, S1, f1, r1, k1⟩ := next_ok (m := 6) (by decide) hk
  unfold F_law_turned b_law_turned
  by_cases c0 : d1 = 0 ∨ vs = []
  · obtain ⟨d2, S2, f2, r2, k2⟩ := next_ok (m := 6) (by decide) k1
    obtain ⟨pA, lA⟩ := pl_cut hp (some 1) none
    generalize hA : cutD vs (some 1) none = A at *
    have l1 : vs.length + 1 ≤ 1000 := by omega
    have l2 : vs.length + vs.length ≤ 1000 := by omega
    obtain ⟨x, hx, px⟩ := pickL (l := [.non, .lst vs, .tup (vs ++ [.tup []]), .tup A, .tup (vs ++ vs), .tup vs.reverse]) (d := d2) (by simp; omega)
      (by simp only [PlA, pl_non, plMkl (show vs.length ≤ 900 by omega) hp, plMk (ds := vs ++ [.tup []]) (by simp; omega) (pl_app hp (pl_one (by simp [Pl, PlA]))), plMk (show A.length ≤ 900 by omega) pA, plMk (ds := vs ++ vs) (by simp; omega) (pl_app hp hp), plMk (ds := vs.reverse) (by simp; omega) (pl_rev hp), Bool.and_self])
    refine ⟨x, S2, run_rs (RetS.nx (ρ1 := [some (.st S1), some (.fz (.tup vs)), some (.fz (.int d1)), none, none, none, none]) (by simp [x_eCallS, f1]) (RetS.rt ?_)), px, k2⟩
    by_cases c1 : d1 = 0
    · simp [RetS, x_eCallS, c1, f2, hA, l1, l2, hx]
    · have c2 : vs = [] := c0.resolve_left c1
      subst c2
      simp at hx
      simp [RetS, x_eCallS, c1, f2, hA, hx]
  · have c1 : ¬ d1 = 0 := fun z => c0 (.inl z)
    have c2 : ¬ vs = [] := fun z => c0 (.inr z)
    have hL : 1 ≤ vs.length := by
      have := List.length_pos_iff.mpr c2
      omega
    have hne : vs.isEmpty = false := by
      cases vs with
      | nil => exact absurd rfl c2
      | cons a b => rfl
    obtain ⟨d2, S2, f2, r2, k2⟩ := next_ok (m := 3) (by decide) k1
    obtain ⟨a, q1, a0, a1⟩ := idx3 hL r2
    obtain ⟨b, t, he, hb, ht⟩ : ∃ b t, atI vs a = some (.tup [b, t]) ∧ Bd b ∧ Bd t := by
      have hlt : a.toNat < vs.length := by omega
      obtain ⟨b, t, h1, h2, h3⟩ := hv vs[a.toNat] (List.getElem_mem hlt)
      exact ⟨b, t, by rw [atI_of _ a0, List.getElem?_eq_getElem hlt, h1], h2, h3⟩
    obtain ⟨pA, lA⟩ := pl_cut hp none (some a)
    obtain ⟨pE, lE⟩ := pl_cut hp (some (a + 1)) none
    generalize hA : cutD vs none (some a) = A at *
    generalize hE : cutD vs (some (a + 1)) none = E at *
    have l4 : A.length + 1 ≤ 1000 := by omega
    have l5 : A.length + 1 + E.length ≤ 1000 := by omega
    suffices hs : ∃ it S3, (sIf (tBl (e2 (gEqv false) (eName 2) (eC (.int 1)))) (sCons (sSet 6 (e2 gIx (eN gLst (aCons (eC .non) (aCons (eN gTup (aCons (eName 4) (aNil))) (aCons (eN gLst (aCons (eName 4) (aCons (eName 5) (aNil)))) (aCons (eN gTup (aCons (eName 5) (aCons (eName 4) (aNil)))) (aCons (eN gTup (aCons (eName 4) (aCons (eName 5) (aCons (eC (.int 0)) (aNil))))) (aCons (eN gTup (aCons (eName 4) (aCons (eC .non) (aNil)))) (aNil)))))))) (eCallS 0 1 F_law_next (aCons (eC (.int 6)) (aNil))))) (sNil)) (sCons (sIf (tBl (e2 (gB fun i j => decide (i < j)) (eName 2) (eC (.int 4)))) (sCons (sSet 6 (eN gTup (aCons (eCallS 0 1 F_law_turned_bound (aCons (eName 4) (aNil))) (aCons (eName 5) (aNil))))) (sNil)) (sCons (sSet 6 (eN gTup (aCons (eName 4) (aCons (eCallS 0 1 F_law_turned_bound (aCons (eName 5) (aNil))) (aNil))))) (sNil))) (sNil)))
        [some (.st S2), some (.fz (.tup vs)), some (.fz (.int d1)), some (.fz (.int a)), some (.fz b), some (.fz t), none] = some (.nx [some (.st S3), some (.fz (.tup vs)), some (.fz (.int d1)), some (.fz (.int a)), some (.fz b), some (.fz t), some (.fz it)]) ∧ Pl it = true ∧ OkS S3 by
      obtain ⟨it, S3, hs, pit, k3⟩ := hs
      refine ⟨.tup (A ++ (it :: E)), S3, run_rs ?_, plMk (by simp; omega) (pl_app pA (by simp [PlA, pit, pE])), k3⟩
      refine RetS.nx (ρ1 := [some (.st S1), some (.fz (.tup vs)), some (.fz (.int d1)), none, none, none, none]) (by simp [x_eCallS, f1]) (RetS.nx (ρ1 := [some (.st S1), some (.fz (.tup vs)), some (.fz (.int d1)), none, none, none, none]) (by simp [c1, hne]) (RetS.nx (ρ1 := [some (.st S2), some (.fz (.tup vs)), some (.fz (.int d1)), some (.fz (.int a)), none, none, none]) (by simp [x_eCallS, f2, q1])
        (RetS.nx (ρ1 := [some (.st S2), some (.fz (.tup vs)), some (.fz (.int d1)), some (.fz (.int a)), some (.fz b), some (.fz t), none]) (by simp [he]) (RetS.nx hs ?_))))
      simp [RetS, hA, hE, l4, l5]
    by_cases e1 : d1 = 1
    · obtain ⟨d3, S3, f3, r3, k3⟩ := next_ok (m := 6) (by decide) k2
      obtain ⟨x, hx, px⟩ := pickL (l := [.non, .tup [b], .lst [b, t], .tup [t, b], .tup [b, t, .int 0], .tup [b, .non]]) (d := d3) (by simp; omega) (by simp [PlA, Pl, hb.1, ht.1])
      exact ⟨x, S3, by simp [x_eCallS, e1, f3, hx], px, k3⟩
    · by_cases e4 : d1 < 4
      · obtain ⟨d3, S3, f3, p3, k3⟩ := hb.2 S2 k2
        exact ⟨.tup [d3, t], S3, by simp [x_eCallS, e1, e4, f3], plTup2 p3 ht.1, k3⟩
      · obtain ⟨d3, S3, f3, p3, k3⟩ := ht.2 S2 k2
        exact ⟨.tup [b, d3], S3, by simp [x_eCallS, e1, e4, f3], plTup2 hb.1 p3, k3⟩
end Kx
set_option Elab.async false
set_option linter.all false
set_option maxRecDepth 100000
set_option maxHeartbeats 4000000
/-! small numbers; equality in the law -/
namespace Kx
open PySem PySem.Spec PyProof.Rows L2
theorem edge_w {n : Nat} {rs : List Rule} (h : OkN n rs) {e : Ed} (he : e ∈ edges rs) : -39 ≤ e.w ∧ e.w ≤ 39 := by
  unfold edges at he
  rw [List.mem_flatMap] at he
  obtain ⟨⟨r, k⟩, hr, he⟩ := he
  have ok := h.rl r (List.mem_of_getElem? (zip_get hr))
  obtain ⟨s, e', lo, hi⟩ := r
  cases lo <;> cases hi <;> simp [edR, edHi, edLo] at he
  · subst he
    exact ok.hi _ rfl
  · subst he
    have := ok.lo _ rfl
    simp only
    omega
  · rcases he with rfl | rfl
    · exact ok.hi _ rfl
    · have := ok.lo _ rfl
      simp only
      omega
theorem tot_small {n : Nat} {rs : List Rule} (h : OkN n rs) : ∀ {w : List Ed} {i j : Int}, IsW (edges rs) i w j → -39 * (w.length : Int) ≤ tot w ∧ tot w ≤ 39 * (w.length : Int)
  | [], i, j, _ => by simp [tot]
  | e :: w, i, j, ⟨h0, h1, hw⟩ => by
    have a := edge_w h h0
    have b := tot_small h hw
    simp only [tot, List.length_cons]
    push_cast
    omega
theorem best_small {n : Nat} {rs : List Rule} (h : OkN n rs) {p : Int × Int} {w : List Ed} (hl : nLook (best n (edges rs)) p = some w) : w.length ≤ 3 ∧ -117 ≤ tot w ∧ tot w ≤ 117 := by
  have n4 := h.n4
  obtain ⟨a, b⟩ := (best_spec (edges_rg h)).real _ _ hl
  have := tot_small h a
  have b3 : w.length ≤ 3 := by omega
  refine ⟨b3, ?_, ?_⟩ <;> omega
section
variable {n : Nat} {rs : List Rule} {hh : Int → Int}
theorem B_small (h : OkN n rs) {i j d : Int} (hd : B n rs i j = some d) : -117 ≤ d ∧ d ≤ 117 := by
  unfold B at hd
  rw [Option.map_eq_some_iff] at hd
  obtain ⟨w, hw, rfl⟩ := hd
  exact (best_small h hw).2
theorem hgt_small (h : OkN n rs) (p : Pot (edges rs) hh) {a : Int} (ha : Rg n a) : -117 ≤ hgt n (B n rs) a ∧ hgt n (B n rs) a ≤ 117 := by
  obtain ⟨o, _, hd⟩ := hgt_mem h p ha
  exact B_small h hd
theorem bv_small (h : OkN n rs) (s e : Int) : -117 ≤ bv (B n rs) s e ∧ bv (B n rs) s e ≤ 117 := by
  unfold bv
  cases hd : B n rs s e with
  | none => simp
  | some d => exact B_small h hd
theorem lft_small (h : OkN n rs) (p : Pot (edges rs) hh) {s : Int} (hs : Rg n s) : -468 ≤ lft n (B n rs) s ∧ lft n (B n rs) s ≤ 468 := by
  have hs1 := hgt_small h p hs
  unfold lft
  refine foldl_inv (lst2 n (B n rs) s) (fun L => -468 ≤ L ∧ L ≤ 468) (ev n) _ ?_ fun L e he hL => ?_
  · unfold lft0
    split
    · exact ⟨by decide, by decide⟩
    · rename_i x xs hx
      have := (maxL_spec xs x).1
      rw [← hx, List.mem_map] at this
      obtain ⟨e, he, hq⟩ := this
      rw [← hq]
      have h1 := hgt_small h p (mem_Kn.mp he).1
      have h2 := bv_small h s e
      omega
  · have he1 := hgt_small h p (mem_ev.mp he)
    unfold lst2
    split
    · exact hL
    · refine foldl_inv (lst1 n (B n rs) s e) (fun L => -468 ≤ L ∧ L ≤ 468) _ _ hL fun L o ho hL => ?_
      unfold lst1
      split
      · rename_i d hd
        have h1 := B_small h hd
        have h2 := bv_small h s o
        omega
      · exact hL
theorem pul_small (h : OkN n rs) (p : Pot (edges rs) hh) {s e : Int} (hs : Rg n s) (he : Rg n e) : -1000 ≤ pul n (B n rs) s e ∧ pul n (B n rs) s e ≤ 1000 := by
  unfold pul
  split
  · have := bv_small h s e
    omega
  · have h1 := hgt_small h p hs
    have h2 := hgt_small h p he
    have h3 := lft_small h p hs
    omega
theorem told_bd (h : OkN n rs) (p : Pot (edges rs) hh) {i j : Int} (hi : Rg n i) : Bd (.tup [encO (B n rs i j), told1 n rs i j]) := by
  have n1 := h.n1
  have n4 := h.n4
  unfold told1
  have hB : B n rs i j = (nLook (best n (edges rs)) (i, j)).map tot := rfl
  rw [hB]
  cases hl : nLook (best n (edges rs)) (i, j) with
  | some w =>
    refine bd_int (by rw [List.length_map, ev_length]; omega) (by rw [List.length_map, ev_length]; omega) (fun x hx => ?_) (by have := (best_small h hl).1; omega)
    obtain ⟨e, he, rfl⟩ := List.mem_map.mp hx
    exact pul_small h p hi (mem_ev.mp he)
  | none =>
    refine bd_non (by rw [List.length_map, ev_length]; omega) (by rw [List.length_map, ev_length]; omega) (fun x hx => ?_) ?_
    · obtain ⟨e, he, rfl⟩ := List.mem_map.mp hx
      have := hgt_small h p (mem_ev.mp he)
      omega
    · have := List.length_filter_le (fun e => (B n rs i e).isNone) (ev n)
      rw [ev_length] at this
      omega
/-! ### the limits are small -/
def SmP (p : Pr) : Prop := (∀ x, p.1 = some x → -137 ≤ x ∧ x ≤ 137) ∧ ∀ x, p.2 = some x → -137 ≤ x ∧ x ≤ 137
theorem cl_small {l : Int} {lo hi : Option Int} (h : -137 ≤ l ∧ l ≤ 137) (h1 : ∀ x, lo = some x → -137 ≤ x ∧ x ≤ 137) (h2 : ∀ x, hi = some x → -137 ≤ x ∧ x ≤ 137) : -137 ≤ cl l lo hi ∧ cl l lo hi ≤ 137 := by
  unfold cl
  cases lo with
  | none =>
    cases hi with
    | none => exact h
    | some b =>
      have := h2 b rfl
      simp only
      omega
  | some a =>
    have := h1 a rfl
    cases hi with
    | none =>
      simp only
      omega
    | some b =>
      have := h2 b rfl
      simp only
      omega
theorem lim_small (h : OkN n rs) {row : List (Int × Int)} (hr : OkW n row) (e : Int) : SmP (row.foldl (limF (B n rs) e) (none, none)) := by
  refine foldl_inv (limF (B n rs) e) SmP row (none, none) ⟨by simp, by simp⟩ fun p w hw hp => ?_
  obtain ⟨_, t1, t2⟩ := hr.2 w hw
  have h1 : ∀ x, (B n rs e w.1).map (w.2 - ·) = some x → -137 ≤ x ∧ x ≤ 137 := fun x hx => by
    rw [Option.map_eq_some_iff] at hx
    obtain ⟨d, hd, rfl⟩ := hx
    have := B_small h hd
    omega
  have h2 : ∀ x, (B n rs w.1 e).map (w.2 + ·) = some x → -137 ≤ x ∧ x ≤ 137 := fun x hx => by
    rw [Option.map_eq_some_iff] at hx
    obtain ⟨d, hd, rfl⟩ := hx
    have := B_small h hd
    omega
  obtain ⟨a, b⟩ := p
  obtain ⟨ha, hb⟩ := hp
  unfold limF nxt
  refine ⟨fun x hx => ?_, fun x hx => ?_⟩
  · cases a with
    | none => exact h1 x hx
    | some l =>
      cases hx
      exact cl_small (ha l rfl) h1 h2
  · cases b with
    | none => exact h2 x hx
    | some l =>
      cases hx
      exact cl_small (hb l rfl) h1 h2
end
/-! ### _law_equal -/
theorem eqBB (a b : Bool) : gEqv false (.bl a) (.bl b) = some (.bl (a == b)) := rfl
theorem equal_bb (b : Bool) : F_law_equal [.bl b, .bl b] = some (.bl true) := by
  show runD 3 2 (b_law_equal (F_law_equalN 1)) [.bl b, .bl b] = _
  unfold b_law_equal
  simp [runD, eqBB]
theorem equal_o (m : Nat) (o : Option Int) : F_law_equalN (m + 1) [encO o, encO o] = some (.bl true) := by
  show runD 3 2 (b_law_equal (F_law_equalN m)) [encO o, encO o] = _
  unfold b_law_equal
  cases o with
  | none => simp [runD, encO]
  | some x => simp [runD, encO, e_law_is_integer (.int x) rfl, numO]
theorem equal_two (a b : Option Int) : F_law_equal [encPr (a, b), encPr (a, b)] = some (.bl true) := by
  show runD 3 2 (b_law_equal (F_law_equalN 1)) [encPr (a, b), encPr (a, b)] = _
  unfold b_law_equal
  have c := eComp_map (vs := [2]) (g := gSet 2) (ft := tYes') (fi := iRange (eN gLen (aCons (eName 1) (aNil)))) (fe := (eCall 2 (F_law_equalN 1) (aCons (e2 gIx (eName 0) (eName 2)) (aCons (e2 gIx (eName 1) (eName 2)) (aNil))))) (ρ := [some (.fz (.tup [encO a, encO b])), some (.fz (.tup [encO a, encO b])), none]) (ev 2) D.int (fun _ => .bl true) _ (iRange_v (by simp) (by decide)) rfl fun k hk => by
    have : k = 0 ∨ k = 1 := by
      have := mem_ev.mp hk
      unfold Rg at this
      omega
    rcases this with rfl | rfl
    · simp [cstep, equal_o 0]
    · simp [cstep, equal_o 0]
  have ca := all_true (ev 2)
  refine run_sl [some (.fz (.tup [encO a, encO b])), some (.fz (.tup [encO a, encO b])), none] rfl ?_
  simp at c ca
  simp [Ret, c, ca]
theorem nePr (p : Pr) : gEqv true (encPr p) (encPr p) = some (.bl false) := by
  obtain ⟨a, b⟩ := p
  cases a <;> cases b <;> simp [encPr, encO, gEqv, py1, py0s, py0, SeqAt.shaped, PyData.canLay0, PyData.canLayAll0, PyData.depth, PyData.depthAll, PyData.eqv, PyData.eqvAll]
@[simp] theorem x_isB0 (x y : Bool) : gIsB false (.bl x) (.bl y) = some (.bl (decide (x = y))) := rfl
@[simp] theorem x_isB1 (x y : Bool) : gIsB true (.bl x) (.bl y) = some (.bl (!decide (x = y))) := rfl
end Kx
set_option Elab.async false
set_option linter.all false
set_option maxRecDepth 100000
set_option maxHeartbeats 4000000
/-! the law's own body is true -/
namespace Kx
open PySem PySem.Spec PyProof.Rows L2
theorem pl_told {n : Nat} {rs : List Rule} {hh : Int → Int} (h : OkN n rs) (p : Pot (edges rs) hh) {row : List (Int × Int)} (hr : OkW n row) {e : Int} (he : Rg n e) :
    (∀ v ∈ row.map (told2 n rs e), ∃ b a, v = .tup [b, a] ∧ Bd b ∧ Bd a) ∧ Pl (.tup (row.map (told2 n rs e))) = true := by
  have h1 : ∀ v ∈ row.map (told2 n rs e), ∃ b a, v = .tup [b, a] ∧ Bd b ∧ Bd a := fun v hv => by
    obtain ⟨w, hw, rfl⟩ := List.mem_map.mp hv
    exact ⟨_, _, rfl, told_bd h p he, told_bd h p (hr.2 w hw).1⟩
  have h3 := hr.1
  refine ⟨h1, plMk (by rw [List.length_map]; omega) (PlA_iff.mpr fun v hv => ?_)⟩
  obtain ⟨b, a, rfl, hb, ha⟩ := h1 v hv
  exact plTup2 hb.1 ha.1
theorem law_true : LawTrue := by
  intro ns _
  have hk0 : OkS ⟨ns, 0, 0⟩ := Int.le_refl 0
  obtain ⟨n, rs, first, second, S1, f1, h, p, k1⟩ := net_ok hk0
  obtain ⟨row, S2, f2, hr, k2⟩ := row_ok (n := n) ⟨h.n1, h.n4⟩ k1
  have n1 := h.n1
  have n4 := h.n4
  have r3 := hr.1
  obtain ⟨e, S3, f3, he0, k3⟩ := next_ok (m := (n : Int)) (by omega) k2
  have he : Rg n e := he0
  obtain ⟨hv, pv⟩ := pl_told h p hr he
  have lim := e_limits h p hr
  have lb := e_law_bounds h
  have le := e_limit_evidence h p hr he
  have sm := lim_small h hr e
  have ta := told_all h p hr he
  have tlen : (row.map (told2 n rs e)).length ≤ 9 := by rw [List.length_map]; omega
  generalize hq : row.foldl (limF (B n rs) e) (none, none) = q at sm ta
  have hdue : atI ((ev n).map fun e => encPr (row.foldl (limF (B n rs) e) (none, none))) e = some (encPr q) := by
    rw [atI_ev he, hq]
  have sound : ∀ {pair value : D}, allB n rs e row pair value = true → pair = encPr q := fun ha => by
    rw [all_sound h p hr he ha, hq]
  have plq : Pl (encPr q) = true := plTup2 (pl_encO _) (pl_encO _)
  generalize ht : row.map (told2 n rs e) = vs at hv pv le ta tlen
  show Ret (b_law (lawStart ns)) (.bl true)
  unfold b_law lawStart
  refine Ret.nx (ρ1 := [none, some (.st S1), some (.fz (encN n rs)), some (.fz (encI first)), some (.fz (encI second)), none, none, none, none, none, none, none, none, none, none, none, none, none, none]) (by simp [x_eCallS, f1]) ?_
  refine Ret.nx (ρ1 := [none, some (.st S2), some (.fz (encN n rs)), some (.fz (encI first)), some (.fz (encI second)), some (.fz (encW row)), none, none, none, none, none, none, none, none, none, none, none, none, none]) (by simp [x_eCallS, f2]) ?_
  refine Ret.nx (ρ1 := [none, some (.st S3), some (.fz (encN n rs)), some (.fz (encI first)), some (.fz (encI second)), some (.fz (encW row)), some (.fz (.int e)), none, none, none, none, none, none, none, none, none, none, none, none]) (by simp [x_eCallS, f3]) ?_
  refine Ret.nx (ρ1 := [none, some (.st S3), some (.fz (encN n rs)), some (.fz (encI first)), some (.fz (encI second)), some (.fz (encW row)), some (.fz (.int e)), some (.fz (encPr q)), none, none, none, none, none, none, none, none, none, none, none]) (by simp [lim, hdue]) ?_
  refine Ret.nx (ρ1 := [none, some (.st S3), some (.fz (encN n rs)), some (.fz (encI first)), some (.fz (encI second)), some (.fz (encW row)), some (.fz (.int e)), some (.fz (encPr q)), some (.fz (encID (lawB n (edges rs)))), none, none, none, none, none, none, none, none, none, none]) (by simp [lb]) ?_
  refine Ret.nx (ρ1 := [none, some (.st S3), some (.fz (encN n rs)), some (.fz (encI first)), some (.fz (encI second)), some (.fz (encW row)), some (.fz (.int e)), some (.fz (encPr q)), some (.fz (encID (lawB n (edges rs)))), some (.fz (.tup vs)), none, none, none, none, none, none, none, none, none]) (by simp [le]) ?_
  have j1 := e_law_is_right h hr he (encPr q) (.tup vs) plq pv
  have j2 := e_accepts_limits h p hr he (encPr q) (.tup vs) plq pv
  rw [ta q, decide_eq_true rfl] at j1 j2
  refine Ret.nx (ρ1 := [none, some (.st S3), some (.fz (encN n rs)), some (.fz (encI first)), some (.fz (encI second)), some (.fz (encW row)), some (.fz (.int e)), some (.fz (encPr q)), some (.fz (encID (lawB n (edges rs)))), some (.fz (.tup vs)), none, none, none, none, none, none, none, none, none]) (by simp [j1, j2]) ?_
  refine Ret.nx (for_fold (S := Unit) row.zipIdx (fun x => .int (x.2 : Nat)) (fun _ => [none, some (.st S3), some (.fz (encN n rs)), some (.fz (encI first)), some (.fz (encI second)), some (.fz (encW row)), some (.fz (.int e)), some (.fz (encPr q)), some (.fz (encID (lawB n (edges rs)))), some (.fz (.tup vs)), none, none, none, none, none, none, none, none, none]) (fun _ _ => ()) (fun _ => True) () (by rw [zip_ev]; exact iRange_v (by simp [encW]) (by omega)) (by simp) trivial ?_ fun _ _ _ _ => trivial) ?_
  · intro _ x hx _
    have hg := zip_get hx
    obtain ⟨⟨o, t⟩, k⟩ := x
    simp only at hg ⊢
    have ho : Rg n o := (hr.2 (o, t) (List.mem_of_getElem? hg)).1
    have g1 : atI (row.map encP) (k : Int) = some (.tup [.int o, .int t]) := by
      rw [atI_nat, List.getElem?_map, hg]
      rfl
    have g2 : atI vs (k : Int) = some (told2 n rs e (o, t)) := by
      rw [← ht, atI_nat, List.getElem?_map, hg]
      rfl
    have d1 : nLook (lawB n (edges rs)) (e, o) = B n rs e o := Dist.uniq (lawB_dist p (edges_rg h) he o) (B_dist h p he o)
    have d2 : nLook (lawB n (edges rs)) (o, e) = B n rs o e := Dist.uniq (lawB_dist p (edges_rg h) ho e) (B_dist h p ho e)
    have eq := equal_two (B n rs e o) (B n rs o e)
    have o1 : ((B n rs e o).map D.int).getD .non = encO (B n rs e o) := by cases B n rs e o <;> rfl
    have o2 : ((B n rs o e).map D.int).getD .non = encO (B n rs o e) := by cases B n rs o e <;> rfl
    simp only [encPr] at eq
    simp [encW, g1, g2, encID, d1, d2, o1, o2, told2, eq]
  obtain ⟨least, greatest⟩ := q
  refine Ret.nx (ρ1 := [none, some (.st S3), some (.fz (encN n rs)), some (.fz (encI first)), some (.fz (encI second)), some (.fz (encW row)), some (.fz (.int e)), some (.fz (encPr (least, greatest))), some (.fz (encID (lawB n (edges rs)))), some (.fz (.tup vs)), none, none, some (.fz (encO least)), some (.fz (encO greatest)), none, none, none, none, none]) (by simp [encPr]) ?_
  refine Ret.nx (ρ1 := [none, some (.st S3), some (.fz (encN n rs)), some (.fz (encI first)), some (.fz (encI second)), some (.fz (encW row)), some (.fz (.int e)), some (.fz (encPr (least, greatest))), some (.fz (encID (lawB n (edges rs)))), some (.fz (.tup vs)), none, none, some (.fz (encO least)), some (.fz (encO greatest)), some (.fz (.lst [.non, .tup [encO least], .lst [encO least, encO greatest], .tup [encO greatest, encO least], .tup [encO least, .int 0], .tup [.int 0, encO greatest], .tup [.bl true, encO greatest], .tup [encO least, .str "0"], .tup [.non, .non], encPr (least, greatest)])), none, none, none, none]) (by simp) ?_
  have pod : PlA [.non, .tup [encO least], .lst [encO least, encO greatest], .tup [encO greatest, encO least], .tup [encO least, .int 0], .tup [.int 0, encO greatest], .tup [.bl true, encO greatest], .tup [encO least, .str "0"], .tup [.non, .non], encPr (least, greatest)] = true := by
    simp [PlA, Pl, pl_encO, strOk_0, plq]
  generalize hod : ([.non, .tup [encO least], .lst [encO least, encO greatest], .tup [encO greatest, encO least], .tup [encO least, .int 0], .tup [.int 0, encO greatest], .tup [.bl true, encO greatest], .tup [encO least, .str "0"], .tup [.non, .non], encPr (least, greatest)] : List D) = odd at pod
  have odl : odd.length = 10 := by rw [← hod]; rfl
  obtain ⟨S4, hf, k4⟩ := for_rel1 (kill := [15, 16, 17, 18]) (g := gSet 15) (fi := iRange (eC (.int 5))) (f := (sCons (sSet 16 (eCallS 1 1 F_law_turned (aCons (eName 9) (aNil)))) (sCons (sSet 17 (e2 gIx (eN gLst (aCons (eName 7) (aCons (eName 7) (aCons (e2 gIx (eName 14) (eCallS 1 1 F_law_next (aCons (eC (.int 10)) (aNil)))) (aNil))))) (eCallS 1 1 F_law_next (aCons (eC (.int 3)) (aNil))))) (sCons (sSet 18 (eCall 5 F_accepts_limits (aCons (eName 2) (aCons (eName 5) (aCons (eName 6) (aCons (eName 17) (aCons (eName 16) (aNil)))))))) (sCons (sIf (tOr' (tNot' (tE (eCall 2 F_law_equal (aCons (eName 18) (aCons (eCall 5 F_law_is_right (aCons (eName 2) (aCons (eName 5) (aCons (eName 6) (aCons (eName 17) (aCons (eName 16) (aNil))))))) (aNil)))))) (tAnd' (tE (eName 18)) (tBl (e2 (gEqv true) (eName 17) (eName 7))))) (sCons (sRet (eC (.bl false))) (sNil)) (sNil)) (sNil))))))
    (ρ := [none, some (.st S3), some (.fz (encN n rs)), some (.fz (encI first)), some (.fz (encI second)), some (.fz (encW row)), some (.fz (.int e)), some (.fz (encPr (least, greatest))), some (.fz (encID (lawB n (edges rs)))), some (.fz (.tup vs)), none, none, some (.fz (encO least)), some (.fz (encO greatest)), some (.fz (.lst odd)), none, none, none, none]) (ev 5) D.int
    (fun S : Strm => [none, some (.st S), some (.fz (encN n rs)), some (.fz (encI first)), some (.fz (encI second)), some (.fz (encW row)), some (.fz (.int e)), some (.fz (encPr (least, greatest))), some (.fz (encID (lawB n (edges rs)))), some (.fz (.tup vs)), none, none, some (.fz (encO least)), some (.fz (encO greatest)), some (.fz (.lst odd)), none, none, none, none]) (fun _ S => OkS S) S3 (iRange_v (by simp) (by decide)) (by simp) k3 (fun k S a ha _ hS => by
      obtain ⟨v, T1, g1, pv1, j1⟩ := turned_ok hS tlen hv
      obtain ⟨d2, T2, g2, q2, j2⟩ := next_ok (m := 10) (by decide) j1
      obtain ⟨d3, T3, g3, q3, j3⟩ := next_ok (m := 3) (by decide) j2
      obtain ⟨x, hx, px⟩ := pickL (l := odd) (d := d2) (by rw [odl]; omega) pod
      obtain ⟨y, hy, py⟩ := pickL (l := [encPr (least, greatest), encPr (least, greatest), x]) (d := d3) (by simp; omega) (by simp [PlA, plq, px])
      have a1 := e_accepts_limits h p hr he y v py pv1
      have a2 := e_law_is_right h hr he y v py pv1
      refine ⟨T3, ?_, j3⟩
      cases hb : allB n rs e row y v with
      | false =>
        rw [hb] at a1 a2
        have eb := equal_bb false
        simp [x_eCallS, g1, g2, g3, hx, hy, a1, a2, eb]
      | true =>
        rw [hb] at a1 a2
        have eb := equal_bb true
        have hyq := sound hb
        subst hyq
        have ne := nePr (least, greatest)
        simp [x_eCallS, g1, g2, g3, hx, hy, a1, a2, eb, ne])
  refine Ret.nx hf (Ret.rt (Ret.v ?_))
  have pf : Pl (encPr (least, some 77777)) = true := plTup2 (pl_encO _) (pl_encO _)
  have jf := e_accepts_limits h p hr he (encPr (least, some 77777)) (.tup vs) pf pv
  have dn : decide ((least, greatest) = ((least, some 77777) : Pr)) = false := by
    rw [decide_eq_false_iff_not]
    intro z
    have z2 : greatest = some 77777 := (Prod.mk.inj z).2
    have := sm.2 77777 z2
    omega
  rw [ta, dn] at jf
  simp only [encPr, encO] at jf
  have jf2 : F_accepts_limits [encN n rs, encW row, .int e, .tup [encO least, .int 77777], .tup vs] = some (.bl false) := by
    rw [← jf]
    cases least <;> rfl
  simp [jf2]
end Kx
theorem PySem.Challenge.cw_allbide_k37_whole_evidence_of_limits_holds : PySem.Challenge.rw_allbide_k37_whole_evidence_of_limits.Holds := by
  exact Kx.whole Kx.law_true
