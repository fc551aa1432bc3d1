/- The printed base that all of the tensor seat's texts use (a claim's size is bounded: Finite, Stop, Stretched lie in x6, Zero and At in z7, Both in x5, Same in x9). -/
import Derived.Test.YtklomikdihlcgaaPBasex0
import Derived.Test.YtklomikdihlcgaaPBasex2
import Derived.Test.YtklomikdihlcgaaPBasex3
import Derived.Test.YtklomikdihlcgaaPBasex4
import Derived.Test.YtklomikdihlcgaaPBasex7
import Derived.Test.YtklomikdihlcgaaPBasex8
