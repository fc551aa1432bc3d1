/- The printed base without Both and Same (a claim's size is bounded). -/
import Derived.Test.YtklomikdihlcgaaPBasex0
import Derived.Test.YtklomikdihlcgaaPBasex2
import Derived.Test.YtklomikdihlcgaaPBasex3
import Derived.Test.YtklomikdihlcgaaPBasex4
import Derived.Test.YtklomikdihlcgaaPBasex6
import Derived.Test.YtklomikdihlcgaaPBasex7
import Derived.Test.YtklomikdihlcgaaPBasex8
