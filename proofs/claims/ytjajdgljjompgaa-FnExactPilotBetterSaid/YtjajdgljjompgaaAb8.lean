/- Single steps of the walk. -/
import Derived.Test.YtjajdgljjompgaaAb7
set_option linter.unusedSimpArgs false
set_option linter.unusedVariables false
namespace Go.Ab
open Go Go.RowKit
section
variable {P : Program} {n : Nat} {st : St} {Q : Post}
theorem Br.t {b : Bool} {A B : Prop} (h : b = true) (k : A) : Br b A B := ⟨fun _ => k, fun e => by rw [h] at e; cases e⟩
theorem Br.f {b : Bool} {A B : Prop} (h : b = false) (k : B) : Br b A B := ⟨fun e => (by rw [h] at e; cases e), fun _ => k⟩
theorem g_skip (h : Q .normal st) : xw P n .skip st Q := h
theorem g_ops {l : List COp} (h : xos P n l st fun st' => Q .normal st') : xw P n (.ops l) st Q := h
theorem g_quiet {l : List COp} (h : xqs P n l st fun st' => Q .normal st') : xw P n (.quiet l) st Q := h
theorem g_seq {x y : CC} (h : xw P n x st fun e st' => match e with
    | .normal => xw P n y st' Q
    | e => Q e st') : xw P n (.seq x y) st Q := h
theorem g_cond {c : Opd} {x y : CC} (h : xcond (c.ev st) (xw P n x st Q) (xw P n y st Q)) : xw P n (.cond c x y) st Q := h
theorem g_block {id : Nat} {c : CC} (h : xw P n c st fun e st' => match e with
    | .exit i => if i = id then Q .normal st' else Q (.exit i) st'
    | e => Q e st') : xw P n (.block id c) st Q := h
theorem g_exit {id : Nat} (h : Q (.exit id) st) : xw P n (.exit id) st Q := h
theorem g_ret (h : Q .ret st) : xw P n .ret st Q := h
theorem g_loop {c : CC} (h : XLc P n c st Q) : xw P n (.loop c) st Q := h
theorem g_nil {K : St → Prop} (h : K st) : xos P n [] st K := h
theorem g_op {dst : Option Nat} {op : XOp} {os : List COp} {K : St → Prop} (h : xo P dst st (fun d st' => putS n dst d st' fun st2 => xos P n os st2 K) op) : xos P n (⟨dst, op, none⟩ :: os) st K := h
theorem g_opg {dst : Option Nat} {op : XOp} {t : Nat} {want : Bool} {os : List COp} {K : St → Prop} (h : xguard (st.fr t) want (xo P dst st (fun d st' => putS n dst d st' fun st2 => xos P n os st2 K) op) (putS n dst .undef st fun st2 => xos P n os st2 K)) : xos P n (⟨dst, op, some (t, want)⟩ :: os) st K := h
theorem q_nil {K : St → Prop} (h : K st) : xqs P n [] st K := h
theorem q_op {dst : Option Nat} {op : XOp} {os : List COp} {K : St → Prop} (h : xq P st (fun d => putS n dst d st fun st2 => xqs P n os st2 K) op) : xqs P n (⟨dst, op, none⟩ :: os) st K := h
theorem q_opg {dst : Option Nat} {op : XOp} {t : Nat} {want : Bool} {os : List COp} {K : St → Prop} (h : xguard (st.fr t) want (xq P st (fun d => putS n dst d st fun st2 => xqs P n os st2 K) op) (putS n dst .undef st fun st2 => xqs P n os st2 K)) : xqs P n (⟨dst, op, some (t, want)⟩ :: os) st K := h
theorem r_nil {K : List D → Prop} (h : K []) : xr st [] K := h
theorem r_t {i : Nat} {rs : List CR} {K : List D → Prop} (h : (st.fr i).noL = true ∧ xr st rs fun ds => K (st.fr i :: ds)) : xr st (.t i :: rs) K := h
theorem r_c {i sz : Nat} {ag : Bool} {rs : List CR} {K : List D → Prop} (h : xload st sz ag (st.fr i) fun d => d.noL = true ∧ xr st rs fun ds => K (d :: ds)) : xr st (.c i sz ag :: rs) K := h
end
end Go.Ab
